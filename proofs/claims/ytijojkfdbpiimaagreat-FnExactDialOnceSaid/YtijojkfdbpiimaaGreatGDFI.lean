/- What the functions answer. -/
import Derived.Test.YtijojkfdbpiimaaGreatGDTab
import Derived.Test.YtijojkfdbpiimaaGreatGDFA
import Derived.Test.YtijojkfdbpiimaaGreatGDFB
import Derived.Test.YtijojkfdbpiimaaGreatGDFC
import Derived.Test.YtijojkfdbpiimaaGreatGDFD
import Derived.Test.YtijojkfdbpiimaaGreatGDFE
import Derived.Test.YtijojkfdbpiimaaGreatGDFG
import Derived.Test.YtijojkfdbpiimaaGreatGDFH
set_option maxHeartbeats 4000000
set_option maxRecDepth 10000
set_option linter.unusedVariables false
set_option linter.unusedSimpArgs false
namespace Go.Vm
def notTag (t : Int) (e : Ext) : Bool := decide (e.tag ≠ t)
theorem ok296 (l : List Ext) (t : Int) (hl : l.length ≤ 1073741824) (w : ∀ y ∈ l, y.body.length ≤ 1099511627776) {f0 : Fl} (h0 : inFl f0 = true) : fix Tb md 296 [R (row fExt l) f0, I t] = some ⟨[R (row fExt (sel (notTag t) idE l)) (.ow false)], [], none⟩ := by
 obtain ⟨et, het⟩ := nm (row fExt (sel (notTag t) idE l))
 rw [← het]
 generalize hr : (⟨_, [], none⟩ : Ret) = r
 obtain ⟨ea, hea⟩ := nm (row fExt l)
 rw [← hea]
 refine fix_fn2 (fn := ir296) tb_296 rfl rfl (by decide) rfl ?_; intro Q hQ; simp only [shutArgs, shutS, List.map_cons, List.map_nil, ir296, shut_in h0, List.head?_nil, reduceCtorEq, if_false, sExt, sHello, sAnswer, sEdit, sDeal, sBox, sDialed, sKnown]
 intro add sub mul arith eq ne lt le gt ge neg conv mn mx not beq len at' ln bd cut app allS isNil mks set o hP F ho
 have la := F.len_at hea
 cbv
 refine loop_ind2 hP (σ := List Ext × List Ext × List (List V) × Int) (fun s => [(0, R ea .sh), (1, I t), (4, R [] .nl), (5, R s.2.2.1 (.ow false)), (6, I s.2.2.2)]) (fun s => At s.2.2.2 s.2.1.length ∧ l = s.2.1 ++ s.1 ∧ s.2.2.1 = row fExt (sel (notTag t) idE s.2.1)) (fun s => s.1.length) (l, [], [], 0) rfl ⟨rfl, rfl, rfl⟩ ?_
 intro c1 Q1 hc1 hQ1
 rintro ⟨suf, pre, eo, i⟩ ⟨hi, hl', hb⟩ ih
 simp only at hi hl' hb ih
 cbv
 cases suf with
 | nil =>
  rw [F.lt_f hi la (by simp [hl'])]; cbv
  rw [hQ1]; cbv
  rw [hQ]; cbv
  rw [← hr, het, hb, hl', List.append_nil]
 | cons x suf =>
  obtain ⟨ix, hix⟩ := nm (pre.length * 2)
  have hpre : pre.length ≤ 1073741824 := by rw [hl'] at hl; simp at hl; omega
  have hs : (sel (notTag t) idE pre).length ≤ pre.length := sel_len
  have hi' : At (add .i64 i 1) (pre ++ [x]).length := at_len (F.inc hi (by omega)) (by simp)
  have hl2 : l = (pre ++ [x]) ++ suf := by rw [hl']; simp
  have hmem : x ∈ l := by rw [hl']; simp
  obtain ⟨e1, he1⟩ := nm (row fI x.body)
  have hx := w x hmem
  have p0 : at' 2 ea i = some (ix, [.int .i64 x.tag, .row () e1]) := by rw [hix, he1]; exact F.get hi hea hl' (fun _ => rfl) (by decide)
  obtain ⟨v, hv⟩ := nm (notTag t x)
  have g1 : ne x.tag t = v := by rw [F.ne, hv]; rfl
  rw [F.lt_t hi la (by simp [hl'])]; cbv
  rw [p0]; cbv
  rw [g1]; cbv
  refine both (fun d => ?_) (fun d => ?_) <;> rw [d] <;> cbv
  ·rw [p0]; cbv
   rw [p0]; cbv
   rw [show allS e1 = true from F.scal he1 (fun _ => rfl)]; cbv
   rw [F.app_nil he1 (fun _ => rfl) hx]; cbv
   rw [show allS [[.int .i64 x.tag, .row () e1]] = false by rw [F.allS]; rfl]; cbv
   obtain ⟨eo', heo'⟩ := nm (row fExt (sel (notTag t) idE pre ++ [idE x]))
   rw [show app 2 eo [[.int .i64 x.tag, .row () e1]] = some eo' by rw [heo', he1]; exact F.push hb (fun _ => rfl) rfl (by omega)]; cbv
   refine ih (suf, pre ++ [x], eo', add .i64 i 1) ⟨hi', hl2, by simp only; rw [heo', sel_t (by rw [← hv, d])]⟩ (by simp)
  ·refine ih (suf, pre ++ [x], eo, add .i64 i 1) ⟨hi', hl2, by simp only; rw [hb, sel_f (by rw [← hv, d])]⟩ (by simp)
def l4Go (n : Int) : List Int → List Int → List Int
 | pre, [] => pre ++ [n]
 | pre, x :: suf => if x < n then l4Go n (pre ++ [x]) suf else if x = n then pre ++ x :: suf else pre ++ n :: x :: suf
def l4V (l : List Int) (n : Int) : List Int := l4Go n [] l
theorem l4Go_len (n : Int) : ∀ (suf pre : List Int), (l4Go n pre suf).length ≤ pre.length + suf.length + 1
 | [], pre => by simp [l4Go]
 | x :: suf, pre => by
  unfold l4Go
  split
  ·have := l4Go_len n suf (pre ++ [x]); simp at this ⊢; omega
  ·split <;> simp <;> omega
theorem l4V_len (l : List Int) (n : Int) : (l4V l n).length ≤ l.length + 1 := by have := l4Go_len n l []; simpa [l4V] using this
theorem l4Go_perm (n : Int) : ∀ (suf pre : List Int), n ∉ suf → (l4Go n pre suf).Perm (n :: (pre ++ suf))
 | [], pre, _ => by unfold l4Go; rw [List.append_nil]; exact List.perm_append_singleton n pre
 | x :: suf, pre, h => by
  unfold l4Go
  simp only [List.mem_cons, not_or] at h
  split
  ·have := l4Go_perm n suf (pre ++ [x]) h.2
   simpa using this
  ·rw [if_neg (fun e => h.1 e.symm)]
   exact List.perm_middle
theorem l4Go_asc (n : Int) : ∀ (suf pre : List Int), (pre ++ suf).Pairwise (· < ·) → n ∉ suf → (∀ x ∈ pre, x < n) → (l4Go n pre suf).Pairwise (· < ·)
 | [], pre, h1, _, h3 => by
  unfold l4Go
  rw [List.append_nil] at h1
  rw [List.pairwise_append]
  exact ⟨h1, by simp, fun a ha b hb => by simp at hb; subst hb; exact h3 a ha⟩
 | x :: suf, pre, h1, h2, h3 => by
  unfold l4Go
  simp only [List.mem_cons, not_or] at h2
  split
  ·rename_i hx
   refine l4Go_asc n suf (pre ++ [x]) (by simpa using h1) h2.2 (fun y hy => ?_)
   rcases List.mem_append.1 hy with hy | hy
   ·exact h3 y hy
   ·simp at hy; subst hy; exact hx
  ·rename_i hx
   rw [if_neg (fun e => h2.1 e.symm)]
   rw [List.pairwise_append] at h1 ⊢
   obtain ⟨p1, p2, p3⟩ := h1
   have hnx : n < x := by have := h2.1; omega
   refine ⟨p1, List.pairwise_cons.2 ⟨fun y hy => ?_, p2⟩, fun a ha b hb => ?_⟩
   ·rcases List.mem_cons.1 hy with rfl | hy
    ·exact hnx
    ·exact Int.lt_trans hnx ((List.pairwise_cons.1 p2).1 y hy)
   ·rcases List.mem_cons.1 hb with rfl | hb
    ·exact h3 a ha
    ·exact p3 a ha b hb
theorem sortI_put {l : List Int} {n : Int} (h : areVer l = true) (hn : hasI l n = false) : sortI (l ++ [n]) = l4V l n := by
 have hm : n ∉ l := fun q => by
  unfold hasI at hn
  rw [List.any_eq_false] at hn
  exact hn n q (by simp)
 obtain ⟨h1, _⟩ := areVer_asc h
 have p1 : (l4V l n).Perm (n :: l) := by have := l4Go_perm n l [] hm; simpa [l4V] using this
 have p2 : (sortI (l ++ [n])).Perm (l ++ [n]) := List.mergeSort_perm _ _
 have s1 : (l4V l n).Pairwise (· < ·) := l4Go_asc n l [] (by simpa using h1) hm (by simp)
 have s2 : (sortI (l ++ [n])).Pairwise (fun a b => decide (a ≤ b) = true) := List.pairwise_mergeSort (fun a b c => by simp; omega) (fun a b => by simp; omega) _
 refine List.Perm.eq_of_pairwise (le := fun a b => a ≤ b) (fun a b _ _ h1 h2 => Int.le_antisymm h1 h2) (s2.imp (fun h => by simpa using h)) (s1.imp (fun h => Int.le_of_lt h)) ?_
 exact p2.trans ((List.perm_append_singleton n l).trans p1.symm)
def avOk (l : List Int) (v : Int) : Bool := areVer l && inR v 1 9 && !hasI l v
def avV (l : List Int) (v : Int) : List Int := if avOk l v then l4V l v else l
theorem avV_len (l : List Int) (v : Int) : (avV l v).length ≤ l.length + 1 := by
 unfold avV; split
 ·exact l4V_len l v
 ·omega
def neI (t x : Int) : Bool := decide (x ≠ t)
theorem ok362 (l : List Int) (t : Int) (hl : l.length ≤ 1073741824) {f0 : Fl} (h0 : inFl f0 = true) : fix Tb md 362 [R (row fI l) f0, I t] = some ⟨[R (row fI (sel (neI t) idI l)) (.ow false)], [], none⟩ := by
 obtain ⟨et, het⟩ := nm (row fI (sel (neI t) idI l))
 rw [← het]
 generalize hr : (⟨_, [], none⟩ : Ret) = r
 obtain ⟨ea, hea⟩ := nm (row fI l)
 rw [← hea]
 refine fix_fn2 (fn := ir362) tb_362 rfl rfl (by decide) rfl ?_; intro Q hQ; simp only [shutArgs, shutS, List.map_cons, List.map_nil, ir362, shut_in h0, List.head?_nil, reduceCtorEq, if_false, sExt, sHello, sAnswer, sEdit, sDeal, sBox, sDialed, sKnown]
 intro add sub mul arith eq ne lt le gt ge neg conv mn mx not beq len at' ln bd cut app allS isNil mks set o hP F ho
 have la := F.len_at hea
 cbv
 refine loop_ind2 hP (σ := List Int × List Int × List (List V) × Int) (fun s => [(0, R ea .sh), (1, I t), (4, R [] .nl), (5, R s.2.2.1 (.ow false)), (6, I s.2.2.2)]) (fun s => At s.2.2.2 s.2.1.length ∧ l = s.2.1 ++ s.1 ∧ s.2.2.1 = row fI (sel (neI t) idI s.2.1)) (fun s => s.1.length) (l, [], [], 0) rfl ⟨rfl, rfl, rfl⟩ ?_
 intro c1 Q1 hc1 hQ1
 rintro ⟨suf, pre, eo, i⟩ ⟨hi, hl', hb⟩ ih
 simp only at hi hl' hb ih
 cbv
 cases suf with
 | nil =>
  rw [F.lt_f hi la (by simp [hl'])]; cbv
  rw [hQ1]; cbv
  rw [hQ]; cbv
  rw [← hr, het, hb, hl', List.append_nil]
 | cons x suf =>
  obtain ⟨ix, hix⟩ := nm (pre.length * 1)
  have hpre : pre.length ≤ 1073741824 := by rw [hl'] at hl; simp at hl; omega
  have hs : (sel (neI t) idI pre).length ≤ pre.length := sel_len
  have hi' : At (add .i64 i 1) (pre ++ [x]).length := at_len (F.inc hi (by omega)) (by simp)
  have hl2 : l = (pre ++ [x]) ++ suf := by rw [hl']; simp
  have hmem : x ∈ l := by rw [hl']; simp
  have p0 : at' 1 ea i = some (ix, [.int .i64 x]) := by rw [hix]; exact F.get hi hea hl' (fun _ => rfl) (by decide)
  obtain ⟨v, hv⟩ := nm (neI t x)
  have g1 : ne x t = v := by rw [F.ne, hv]; rfl
  rw [F.lt_t hi la (by simp [hl'])]; cbv
  rw [p0]; cbv
  rw [g1]; cbv
  refine both (fun d => ?_) (fun d => ?_) <;> rw [d] <;> cbv
  ·rw [p0]; cbv
   rw [show allS [[.int .i64 x]] = true by rw [F.allS]; rfl]; cbv
   obtain ⟨eo', heo'⟩ := nm (row fI (sel (neI t) idI pre ++ [idI x]))
   rw [show app 1 eo [[.int .i64 x]] = some eo' by rw [heo']; exact F.push hb (fun _ => rfl) rfl (by omega)]; cbv
   refine ih (suf, pre ++ [x], eo', add .i64 i 1) ⟨hi', hl2, by simp only; rw [heo', sel_t (by rw [← hv, d])]⟩ (by simp)
  ·refine ih (suf, pre ++ [x], eo, add .i64 i 1) ⟨hi', hl2, by simp only; rw [hb, sel_f (by rw [← hv, d])]⟩ (by simp)
def dvOk (l : List Int) (v : Int) : Bool := areVer l && hasI l v && !decide (l.length = 1)
def dvV (l : List Int) (v : Int) : List Int := if dvOk l v then sel (neI v) idI l else l
theorem dvV_len {l : List Int} {v : Int} : (dvV l v).length ≤ l.length := by
 unfold dvV; split
 ·exact sel_len
 ·exact Nat.le_refl _
theorem notIn_one {v : Int} : notIn [v] = neI v := by
 funext x
 simp only [notIn, neI, hasI, List.any_cons, List.any_nil, Bool.or_false]
 by_cases h : v = x <;> simp [h, eq_comm]
def ehX (h : Hello) (n : Int) : List Ext := h.exts ++ [⟨n, []⟩]
def editH (h : Hello) (e : Edit) : Hello :=
 if e.kind = 1 then ⟨dvV h.versions e.n, h.exts⟩ else if e.kind = 2 then ⟨avV h.versions e.n, h.exts⟩ else if e.kind = 3 then ⟨h.versions, sel (notTag e.n) idE h.exts⟩ else if e.kind = 6 then (if areEx (ehX h e.n) = true then ⟨h.versions, ehX h e.n⟩ else h) else h
def hB (h : Hello) (n m : Nat) : Prop := h.versions.length ≤ n ∧ h.exts.length ≤ m ∧ ∀ y ∈ h.exts, y.body.length ≤ 1073741824
theorem editH_b {h : Hello} {e : Edit} {n m : Nat} (q : hB h n m) : hB (editH h e) (n + 1) (m + 1) := by
 obtain ⟨q1, q2, q3⟩ := q
 unfold editH
 split
 ·exact ⟨Nat.le_trans (Nat.le_trans dvV_len q1) (by omega), by show h.exts.length ≤ _; omega, q3⟩
 split
 ·exact ⟨by have := avV_len h.versions e.n; show (avV h.versions e.n).length ≤ _; omega, by show h.exts.length ≤ _; omega, q3⟩
 split
 ·refine ⟨by show h.versions.length ≤ _; omega, Nat.le_trans sel_len (by omega), fun y hy => q3 y ?_⟩
  simp only [sel_idE] at hy
  exact (List.mem_filter.1 hy).1
 split
 ·split
  ·refine ⟨by show h.versions.length ≤ _; omega, by show (ehX h e.n).length ≤ _; simp [ehX]; omega, fun y hy => ?_⟩
   simp only [ehX] at hy
   rcases List.mem_append.1 hy with hy | hy
   ·exact q3 y hy
   ·simp at hy; subst hy; simp
  ·exact ⟨by omega, by omega, q3⟩
 ·exact ⟨by omega, by omega, q3⟩
theorem hB_mid {h : Hello} {n : Nat} (q : hB h n n) (hn : n ≤ 1073741824) : h.Mid := ⟨Nat.le_trans q.1 hn, Nat.le_trans q.2.1 hn, q.2.2⟩
def editA (a : Answer) (e : Edit) : Answer := if (decide (e.kind = 4) && inR e.n 1 9) = true then ⟨e.n, a.exts⟩ else if decide (e.kind = 5) = true then ⟨a.version, sel (notTag e.n) idE a.exts⟩ else a
theorem ok154 (a : Answer) (e : Edit) (hl : a.exts.length ≤ 1073741824) (w : ∀ y ∈ a.exts, y.body.length ≤ 1099511627776) {f0 : Fl} (h0 : inFl f0 = true) : fix Tb md 154 [sAnswer a.version (row fExt a.exts) f0, sEdit e.kind e.n] = some ⟨[sAnswer (editA a e).version (row fExt (editA a e).exts) (.ow false)], [], none⟩ := by
 obtain ⟨b1, hb1⟩ := nm (decide (e.kind = 4))
 obtain ⟨b2, hb2⟩ := nm (inR e.n 1 9)
 obtain ⟨b3, hb3⟩ := nm (decide (e.kind = 5))
 have hv : editA a e = if (b1 && b2) = true then ⟨e.n, a.exts⟩ else if b3 = true then ⟨a.version, sel (notTag e.n) idE a.exts⟩ else a := by rw [hb1, hb2, hb3]; rfl
 obtain ⟨z, hz⟩ := nm (editA a e)
 rw [← hz] at hv ⊢
 have hA : b1 = true → b2 = true → z = ⟨e.n, a.exts⟩ := by intro q1 q2; rw [hv, q1, q2]; rfl
 have hB : (b1 && b2) = false → b3 = true → z = ⟨a.version, sel (notTag e.n) idE a.exts⟩ := by intro q1 q2; rw [hv, q1, q2]; rfl
 have hC : (b1 && b2) = false → b3 = false → z = a := by intro q1 q2; rw [hv, q1, q2]; rfl
 obtain ⟨et, het⟩ := nm (row fExt z.exts)
 rw [← het]
 generalize hr : (⟨_, [], none⟩ : Ret) = r
 obtain ⟨ea, hea⟩ := nm (row fExt a.exts)
 rw [← hea]
 obtain ⟨ed, hed⟩ := nm (row fExt (sel (notTag e.n) idE a.exts))
 refine fix_fn2 (fn := ir154) tb_154 rfl rfl (by decide) rfl ?_; intro Q hQ; simp only [shutArgs, shutS, List.map_cons, List.map_nil, ir154, shut_in h0, List.head?_nil, reduceCtorEq, if_false, sExt, sHello, sAnswer, sEdit, sDeal, sBox, sDialed, sKnown]
 intro add sub mul arith eq ne lt le gt ge neg conv mn mx not beq len at' ln bd cut app allS isNil mks set o hP F ho
 have c1 : o 295 [R ea (.sp 0 0)] = some ⟨[R ea (.ow false)], [], none⟩ := by rw [ho, hea]; exact ok295 _ hl w rfl
 have c2 : o 230 [I e.n, I 1, I 9] = some ⟨[B b2], [], none⟩ := by rw [ho, hb2]; exact ok230 ..
 have c3 : o 296 [R ea (.sp 0 0), I e.n] = some ⟨[R ed (.ow false)], [], none⟩ := by rw [ho, hed, hea]; exact ok296 _ _ hl w rfl
 have g1 : eq e.kind 4 = b1 := by rw [F.eq, hb1]
 have g2 : eq e.kind 5 = b3 := by rw [F.eq, hb3]
 cbv
 rw [c1]; cbv
 rw [g1]; cbv
 refine both (fun d1 => ?_) (fun d1 => ?_) <;> rw [d1] <;> cbv
 ·rw [c2]; cbv
  refine both (fun d2 => ?_) (fun d2 => ?_) <;> rw [d2] <;> cbv
  ·rw [hQ]; cbv
   have hv := hA d1 d2
   rw [← hr, het, hv, hea]
  ·rw [g2]; cbv
   refine both (fun d3 => ?_) (fun d3 => ?_) <;> rw [d3] <;> cbv
   ·rw [c3]; cbv
    rw [hQ]; cbv
    have hv := hB (by rw [d1, d2]; rfl) d3
    rw [← hr, het, hv, hed]
   ·rw [hQ]; cbv
    have hv := hC (by rw [d1, d2]; rfl) d3
    rw [← hr, het, hv, hea]
 ·rw [g2]; cbv
  refine both (fun d3 => ?_) (fun d3 => ?_) <;> rw [d3] <;> cbv
  ·rw [c3]; cbv
   rw [hQ]; cbv
   have hv := hB (by rw [d1]; rfl) d3
   rw [← hr, het, hv, hed]
  ·rw [hQ]; cbv
   have hv := hC (by rw [d1]; rfl) d3
   rw [← hr, het, hv, hea]
theorem editA_mid {a : Answer} {e : Edit} (h : a.Mid) : (editA a e).Mid := by
 unfold editA
 split
 ·exact h
 ·split
  ·unfold Answer.Mid at *
   exact ⟨Nat.le_trans sel_len h.1, fun y hy => h.2 y (by rw [sel_idE] at hy; exact (List.mem_filter.1 hy).1)⟩
  ·exact h
def gEx (x : Ext) : Bool := inR x.tag 0 255 && !decide (4 < x.body.length) && bytes x.body
theorem exOk_iff : ∀ {suf pre : List Ext}, exOk pre suf = true ↔ (∀ x ∈ suf, gEx x = true ∧ ∀ y ∈ pre, y.tag ≠ x.tag) ∧ suf.Pairwise (fun x y => x.tag ≠ y.tag)
 | [], pre => by simp [exOk]
 | x :: suf, pre => by
  have hp : pre.any (tagP x.tag) = false ↔ ∀ y ∈ pre, y.tag ≠ x.tag := by simp [List.any_eq_false, tagP]
  unfold exOk
  simp only [Bool.and_eq_true, Bool.not_eq_true', exOk_iff (suf := suf) (pre := pre ++ [x]), List.pairwise_cons, hp]
  constructor
  ·rintro ⟨⟨⟨⟨a, b⟩, c⟩, d⟩, e, f⟩
   refine ⟨?_, fun y hy => ?_, f⟩
   ·intro z hz
    rcases List.mem_cons.1 hz with rfl | hz
    ·exact ⟨by unfold gEx; rw [a, b, c]; rfl, d⟩
    ·exact ⟨(e z hz).1, fun y hy => (e z hz).2 y (by simp [hy])⟩
   ·exact (e y hy).2 x (by simp)
  ·rintro ⟨h1, h2, h3⟩
   have hx := h1 x (by simp)
   unfold gEx at hx
   simp only [Bool.and_eq_true, Bool.not_eq_true'] at hx
   refine ⟨⟨⟨hx.1.1, hx.1.2⟩, hx.2⟩, fun z hz => ⟨(h1 z (by simp [hz])).1, fun y hy => ?_⟩, h3⟩
   rcases List.mem_append.1 hy with hy | hy
   ·exact (h1 z (by simp [hz])).2 y hy
   ·simp at hy; subst hy; exact h2 z hz
theorem areEx_iff {l : List Ext} : areEx l = true ↔ (∀ x ∈ l, gEx x = true) ∧ l.Pairwise (fun x y => x.tag ≠ y.tag) ∧ l.length ≤ 6 := by
 unfold areEx
 rw [Bool.and_eq_true, exOk_iff, decide_eq_true_eq]
 constructor
 ·rintro ⟨⟨h1, h2⟩, h3⟩; exact ⟨fun x hx => (h1 x hx).1, h2, h3⟩
 ·rintro ⟨h1, h2, h3⟩; exact ⟨⟨fun x hx => ⟨h1 x hx, by simp⟩, h2⟩, h3⟩
theorem areEx_sel {l : List Ext} {p : Ext → Bool} (h : areEx l = true) : areEx (sel p idE l) = true := by
 rw [sel_idE]
 obtain ⟨h1, h2, h3⟩ := areEx_iff.1 h
 exact areEx_iff.2 ⟨fun x hx => h1 x (List.mem_filter.1 hx).1, h2.filter _, Nat.le_trans (List.length_filter_le _ _) h3⟩
theorem bestC_in {a b : List Int} (h : bestC a b ≠ 0) : 1 ≤ bestC a b ∧ bestC a b ≤ 9 ∧ hasI b (bestC a b) = true ∧ hasI a (bestC a b) = true := by
 unfold bestC at h ⊢
 split at h
 ·rename_i hv
  rw [if_pos hv]
  rw [Bool.and_eq_true] at hv
  have hne : comm a b ≠ [] := fun e => by rw [e] at h; exact h rfl
  have hm : (comm a b).getLastD 0 ∈ comm a b := by
   rw [List.getLastD_eq_getLast?, List.getLast?_eq_some_getLast hne]
   exact List.getLast_mem hne
  obtain ⟨m, hmm⟩ : ∃ m, m = (comm a b).getLastD 0 := ⟨_, rfl⟩
  rw [← hmm] at hm ⊢
  have h1 := (comm_asc (b := b) hv.1).2 _ hm
  have h2 : m ∈ a ∧ hasI b m = true := by
   unfold comm at hm
   rw [sel_idI, List.mem_filter] at hm
   exact hm
  refine ⟨h1.1, h1.2, h2.2, ?_⟩
  unfold hasI
  rw [List.any_eq_true]
  exact ⟨_, h2.1, by simp⟩
 ·exact absurd rfl h
theorem caV_ans {vs tg : List Int} {h : Hello} (q : caOk vs h = true) : isAns (caV vs tg h).version (caV vs tg h).exts = true := by
 unfold caV
 rw [if_pos q]
 unfold caOk isHel at q
 simp only [Bool.and_eq_true, Bool.not_eq_true', decide_eq_false_iff_not] at q
 obtain ⟨⟨_, hx⟩, hb⟩ := q
 have := bestC_in hb
 unfold isAns
 rw [Bool.and_eq_true]
 refine ⟨?_, areEx_sel (areEx_sel hx)⟩
 unfold inR
 simp; omega
theorem caOk_hel {vs : List Int} {h : Hello} (q : caOk vs h = true) : isHel h = true := by
 unfold caOk at q; simp only [Bool.and_eq_true] at q; exact q.1
theorem ansB_ne {a : Answer} (q : isAns a.version a.exts = true) : ansB a ≠ [] := by unfold ansB; rw [if_pos q]; simp
def dlG (vs tg : List Int) (seen : Hello) (es : List Edit) : Answer := es.foldl editA (caV vs tg seen)
def dlF (k : Int) (vs tg : List Int) (seen : Hello) : Int := finV k [helB seen, ansB (caV vs tg seen)] 1
def dlOk (h seen : Hello) (vs tg : List Int) (k : Int) (es : List Edit) : Bool := caOk vs seen && (fitsV h (dlG vs tg seen es) && chkV k [helB h, ansB (dlG vs tg seen es)] 1 (dlF k vs tg seen))
def dlV (h seen : Hello) (vs tg : List Int) (k : Int) (es : List Edit) : Deal := if dlOk h seen vs tg k es then ⟨true, (dlG vs tg seen es).version, tags (dlG vs tg seen es).exts⟩ else ⟨false, 0, []⟩
theorem two_w {a b : List Int} (h1 : a.length ≤ 48) (h2 : b.length ≤ 48) : [a, b].length ≤ 1048576 ∧ ∀ y ∈ [a, b], y.length ≤ 1048576 := ⟨by simp, by intro y hy; simp at hy; rcases hy with rfl | rfl <;> omega⟩
theorem dlG_mid : ∀ (es : List Edit) {a : Answer}, a.Mid → (es.foldl editA a).Mid
 | [], _, ma => ma
 | e :: es, a, ma => dlG_mid es (editA_mid ma)
theorem fits_parts {h : Hello} {a : Answer} (q : fitsV h a = true) : isHel h = true ∧ isAns a.version a.exts = true := by
 unfold fitsV at q; simp only [Bool.and_eq_true] at q; exact ⟨q.1.1.2, q.1.2⟩
def doOk (h : Hello) (path : List Box) (vs tg : List Int) (k : Int) : Bool := ppOk path h && dlOk h (ppV path h) vs tg k []
def doV (h : Hello) (path : List Box) (vs tg : List Int) (k : Int) : Deal := if doOk h path vs tg k then ⟨true, (caV vs tg (ppV path h)).version, tags (caV vs tg (ppV path h)).exts⟩ else ⟨false, 0, []⟩
theorem tags_len {l : List Ext} : (tags l).length = l.length := by rw [tags_map, List.length_map]
theorem doV_mid {h : Hello} {path : List Box} {vs tg : List Int} {k : Int} (m : h.Mid) : (doV h path vs tg k).Mid := by
 unfold doV
 split
 ·have := caV_mid (vs := vs) (tg := tg) (ppV_mid (path := path) m)
  show (tags _).length ≤ 1073741824
  rw [tags_len]; exact this.1
 ·show ([] : List Int).length ≤ 1073741824
  simp
theorem dl_nil {h seen : Hello} {vs tg : List Int} {k : Int} (q : caOk vs seen = true) : dlOk h seen vs tg k [] = (fitsV h (caV vs tg seen) && (!decide (finV k [helB h, ansB (caV vs tg seen)] 1 = 0) && decide (finV k [helB h, ansB (caV vs tg seen)] 1 = finV k [helB seen, ansB (caV vs tg seen)] 1))) := by
 unfold dlOk dlF chkV
 rw [q, Bool.true_and, show dlG vs tg seen [] = caV vs tg seen from rfl]
 congr 1
 by_cases e : finV k [helB h, ansB (caV vs tg seen)] 1 = finV k [helB seen, ansB (caV vs tg seen)] 1
 ·rw [e]
 ·simp [e]
def tF : Bool → Fl
 | true => .ow false
 | false => .nl
inductive HF : List Int → List Ext → Fl → Fl → Prop
 | oo (V : List Int) (X : List Ext) : HF V X (.ow false) (.ow false)
 | on (V : List Int) : HF V [] (.ow false) .nl
 | nn : HF [] [] .nl .nl
theorem HF.three {vs : List Int} {xs : List Ext} {P : List (List V) → List (List V) → Fl → Fl → Prop} (h : ∃ f g, HF vs xs f g ∧ P (row fI vs) (row fExt xs) f g) : P (row fI vs) (row fExt xs) (.ow false) (.ow false) ∨ (xs = [] ∧ P (row fI vs) [] (.ow false) .nl) ∨ (vs = [] ∧ xs = [] ∧ P [] [] .nl .nl) := by
 obtain ⟨f, g, h1, h2⟩ := h
 cases h1 with
 | oo => exact .inl h2
 | on => exact .inr (.inl ⟨rfl, h2⟩)
 | nn => exact .inr (.inr ⟨rfl, rfl, h2⟩)
theorem HF.of3 {vs : List Int} {xs : List Ext} {P : List (List V) → List (List V) → Fl → Fl → Prop} (h : P (row fI vs) (row fExt xs) (.ow false) (.ow false) ∨ (xs = [] ∧ P (row fI vs) [] (.ow false) .nl) ∨ (vs = [] ∧ xs = [] ∧ P [] [] .nl .nl)) : ∃ f g, HF vs xs f g ∧ P (row fI vs) (row fExt xs) f g := by
 rcases h with h | ⟨rfl, h⟩ | ⟨rfl, rfl, h⟩
 ·exact ⟨_, _, .oo _ _, h⟩
 ·exact ⟨_, _, .on _, h⟩
 ·exact ⟨_, _, .nn, h⟩
theorem HF.of2 {vs : List Int} {xs : List Ext} {P : List (List V) → List (List V) → Fl → Fl → Prop} (h : P (row fI vs) (row fExt xs) (.ow false) (.ow false) ∨ (vs = [] ∧ xs = [] ∧ P [] [] .nl .nl)) : ∃ f g, HF vs xs f g ∧ P (row fI vs) (row fExt xs) f g := by
 rcases h with h | ⟨rfl, rfl, h⟩
 ·exact ⟨_, _, .oo _ _, h⟩
 ·exact ⟨_, _, .nn, h⟩
theorem HF.fl {vs : List Int} {xs : List Ext} {f g : Fl} (h : HF vs xs f g) : (f = .ow false ∧ g = .ow false) ∨ (f = .ow false ∧ g = .nl) ∨ (f = .nl ∧ g = .nl) := by cases h <;> simp
def inA (f : Fl) (i c : Nat) : Fl := match f with | .ow _ => .sp i c | f => f
theorem HF.inl {vs : List Int} {xs : List Ext} {f g : Fl} (h : HF vs xs f g) (i c : Nat) : inFl (inA f i c) = true := by cases h <;> rfl
theorem HF.inr {vs : List Int} {xs : List Ext} {f g : Fl} (h : HF vs xs f g) (i c : Nat) : inFl (inA g i c) = true := by cases h <;> rfl
theorem ok210r (h : Hello) (path : List Box) (vs tg : List Int) (k : Int) (mh : h.Mid) (pl : path.length ≤ 1073741824) (pm : ∀ y ∈ path, y.Mid) (hv : vs.length ≤ 1073741824) (ht : tg.length ≤ 1073741824) {f0 f1 f2 f3 f4 : Fl} (q0 : inFl f0 = true) (q1 : inFl f1 = true) (q2 : inFl f2 = true) (q3 : inFl f3 = true) (q4 : inFl f4 = true) (r : Ret)
  (rA : doOk h path vs tg k = true → (⟨[sDeal true (caV vs tg (ppV path h)).version (row fI (tags (caV vs tg (ppV path h)).exts)) (.ow false)], [], none⟩ : Ret) = r) (rC : doOk h path vs tg k = false → (⟨[sDeal false 0 [] .nl], [], none⟩ : Ret) = r) :
  fix Tb md 210 [sHello (row fI h.versions) (row fExt h.exts) f0 f1, R (row fBox path) f2, R (row fI vs) f3, R (row fI tg) f4, I k] = some r := by
 obtain ⟨fv, gv, hf, k1⟩ := HF.of3 (P := fun vv xx f g => fix Tb md 196 [R (row fBox path) (.sp 0 0), sHello (row fI h.versions) (row fExt h.exts) (.sp 1 0) (.sp 1 1)] = some ⟨[sHello vv xx f g, B (ppOk path h)], [], none⟩) (ok196 path h pl pm mh (f0 := .sp 0 0) (f1 := .sp 1 0) (f2 := .sp 1 1) rfl rfl rfl)
 obtain ⟨seen, hseen⟩ := nm (ppV path h)
 have ms : seen.Mid := by rw [hseen]; exact ppV_mid mh
 obtain ⟨w, hw⟩ := nm (ppOk path h)
 have hok : doOk h path vs tg k = (w && dlOk h seen vs tg k []) := by rw [hw, hseen]; rfl
 rw [hok] at rA rC
 rw [← hseen] at rA
 rw [← hw, ← hseen] at k1
 clear hok
 cases hca : caOk vs seen with
 | false =>
  have hdl : dlOk h seen vs tg k [] = false := by unfold dlOk; rw [hca]; rfl
  rw [hdl, Bool.and_false] at rC
  replace rC := rC rfl
  clear rA
  have k2 := fun (a b : Fl) (qa : inFl a = true) (qb : inFl b = true) => ok168b vs tg seen hv ht ms (f0 := .sp 0 0) (f1 := .sp 1 0) (f2 := a) (f3 := b) rfl rfl qa qb hca
  obtain ⟨ev, hev⟩ := nm (row fI vs)
  obtain ⟨et, het⟩ := nm (row fI tg)
  obtain ⟨dv, hdv⟩ := nm (row fI h.versions)
  obtain ⟨dx, hdx⟩ := nm (row fExt h.exts)
  obtain ⟨sv, hsv⟩ := nm (row fI seen.versions)
  obtain ⟨sx, hsx⟩ := nm (row fExt seen.exts)
  obtain ⟨ep, hep⟩ := nm (row fBox path)
  rw [← hep, ← hdv, ← hdx, ← hsv, ← hsx] at k1
  rw [← hev, ← het, ← hsv, ← hsx] at k2
  rw [← hev, ← het, ← hdv, ← hdx, ← hep]
  have k2' := k2 (inA fv 2 0) (inA gv 2 1) (hf.inl 2 0) (hf.inr 2 1)
  replace hf := HF.fl hf
  rcases hf with ⟨rfl, rfl⟩ | ⟨rfl, rfl⟩ | ⟨rfl, rfl⟩
  all_goals
   simp only [inA] at k2'
   refine fix_fn2 (fn := ir210) tb_210 rfl rfl (by decide) rfl ?_; intro Q hQ; simp only [shutArgs, shutS, List.map_cons, List.map_nil, ir210, shut_in q0, shut_in q1, shut_in q2, shut_in q3, shut_in q4, List.head?_nil, reduceCtorEq, if_false, sExt, sHello, sAnswer, sEdit, sDeal, sBox, sDialed, sKnown]
   intro add sub mul arith eq ne lt le gt ge neg conv mn mx not beq len at' ln bd cut app allS isNil mks set o hP F ho
   rw [← ho] at k1 k2'
   cbv
   rw [k1]; cbv
   refine both (fun d1 => ?_) (fun d1 => ?_) <;> rw [d1] <;> cbv
   ·rw [hQ]; cbv
    exact congrArg some rC
   rw [k2']; cbv
   rw [show not false = true by rw [F.not]; rfl]; cbv
   rw [hQ]; cbv
   exact congrArg some rC
 | true =>
  obtain ⟨S, hS⟩ := nm (caV vs tg seen)
  have mS : S.Mid := by rw [hS]; exact caV_mid ms
  have lS : S.exts.length ≤ 1073741824 := mS.1
  have wS : ∀ y ∈ S.exts, y.body.length ≤ 1099511627776 := fun y hy => Nat.le_trans (show y.body.length ≤ 1073741824 from mS.2 y hy) (by decide)
  have bS : (ansB S).length ≤ 48 := Nat.le_trans (ansB_len S) (by decide)
  obtain ⟨u, hu⟩ := nm (fitsV h S)
  obtain ⟨n1, hn1⟩ := nm (finV k [helB h, ansB S] 1)
  obtain ⟨n2, hn2⟩ := nm (finV k [helB seen, ansB S] 1)
  obtain ⟨z1, hz1⟩ := nm (decide (n1 = 0))
  obtain ⟨z2, hz2⟩ := nm (decide (n1 = n2))
  have hdl : dlOk h seen vs tg k [] = (u && (!z1 && z2)) := by rw [dl_nil hca, ← hS, hu, hz1, hz2, hn1, hn2]
  rw [hdl] at rA rC
  rw [← hS] at rA
  have k2 := fun (a b : Fl) (qa : inFl a = true) (qb : inFl b = true) => ok168a vs tg seen hv ht ms (f0 := .sp 0 0) (f1 := .sp 1 0) (f2 := a) (f3 := b) rfl rfl qa qb hca
  rw [← hS] at k2
  have k3 := ok160 h S mh mS (f0 := .sp 0 0) (f1 := .sp 0 1) (f2 := .sp 1 1) rfl rfl rfl
  rw [← hu] at k3
  have k4 := ok162 h mh (f0 := .sp 0 0) (f1 := .sp 0 1) rfl rfl
  have k5 := fun (a b : Fl) (qa : inFl a = true) (qb : inFl b = true) => ok162 seen ms (f0 := a) (f1 := b) qa qb
  have k6 := ok151 S (by omega) wS (f0 := .sp 0 1) rfl
  have k7 := ok143 k [helB h, ansB S] 1 (two_w (helB_small h) bS) (f0 := .sp 1 0) rfl
  have k8 := ok143 k [helB seen, ansB S] 1 (two_w (helB_small seen) bS) (f0 := .sp 1 0) rfl
  have k9 := ok280 S.exts lS (f0 := .sp 0 0) rfl
  rw [show sel yesE Ext.tag S.exts = tags S.exts from rfl] at k9
  rw [← hn1] at k7
  rw [← hn2] at k8
  obtain ⟨ev, hev⟩ := nm (row fI vs)
  obtain ⟨et, het⟩ := nm (row fI tg)
  obtain ⟨dv, hdv⟩ := nm (row fI h.versions)
  obtain ⟨dx, hdx⟩ := nm (row fExt h.exts)
  obtain ⟨sv, hsv⟩ := nm (row fI seen.versions)
  obtain ⟨sx, hsx⟩ := nm (row fExt seen.exts)
  obtain ⟨ep, hep⟩ := nm (row fBox path)
  obtain ⟨eS, heS⟩ := nm (row fExt S.exts)
  obtain ⟨eT, heT⟩ := nm (row fI (tags S.exts))
  obtain ⟨b1, hb1⟩ := nm (row fI (helB h))
  obtain ⟨b2, hb2⟩ := nm (row fI (helB seen))
  obtain ⟨b3, hb3⟩ := nm (row fI (ansB S))
  rw [← hep, ← hdv, ← hdx, ← hsv, ← hsx] at k1
  rw [← hev, ← het, ← hsv, ← hsx, ← heS] at k2
  rw [← hdv, ← hdx, ← heS] at k3
  rw [← hdv, ← hdx, ← hb1] at k4
  rw [← hsv, ← hsx, ← hb2] at k5
  rw [← heS, ← hb3] at k6
  simp only [row, fR, List.map_cons, List.map_nil] at k7 k8
  rw [show List.map fI (helB h) = b1 from hb1.symm, show List.map fI (ansB S) = b3 from hb3.symm] at k7
  rw [show List.map fI (helB seen) = b2 from hb2.symm, show List.map fI (ansB S) = b3 from hb3.symm] at k8
  rw [← heS, ← heT] at k9
  rw [← heT] at rA
  rw [← hev, ← het, ← hdv, ← hdx, ← hep]
  have k2' := k2 (inA fv 2 0) (inA gv 2 1) (hf.inl 2 0) (hf.inr 2 1)
  have k5' := k5 (inA fv 0 0) (inA gv 0 1) (hf.inl 0 0) (hf.inr 0 1)
  replace hf := HF.fl hf
  rcases hf with ⟨rfl, rfl⟩ | ⟨rfl, rfl⟩ | ⟨rfl, rfl⟩
  all_goals
   simp only [inA] at k2' k5'
   refine fix_fn2 (fn := ir210) tb_210 rfl rfl (by decide) rfl ?_; intro Q hQ; simp only [shutArgs, shutS, List.map_cons, List.map_nil, ir210, shut_in q0, shut_in q1, shut_in q2, shut_in q3, shut_in q4, List.head?_nil, reduceCtorEq, if_false, sExt, sHello, sAnswer, sEdit, sDeal, sBox, sDialed, sKnown]
   intro add sub mul arith eq ne lt le gt ge neg conv mn mx not beq len at' ln bd cut app allS isNil mks set o hP F ho
   rw [← ho] at k1 k2' k3 k4 k5' k6 k7 k8 k9
   have g1 : eq n1 0 = z1 := by rw [F.eq, hz1]
   have g2 : ne n1 n2 = !z2 := by rw [F.ne, hz2]; simp
   cbv
   rw [k1]; cbv
   refine both (fun d1 => ?_) (fun d1 => ?_) <;> rw [d1] <;> cbv
   ·rw [hQ]; cbv
    exact congrArg some (rC (by rw [F.not_t d1]; rfl))
   rw [k2']; cbv
   rw [show not true = false by rw [F.not]; rfl]; cbv
   rw [k3]; cbv
   refine both (fun d2 => ?_) (fun d2 => ?_) <;> rw [d2] <;> cbv
   ·rw [hQ]; cbv
    exact congrArg some (rC (by rw [F.not_t d2, F.not_f d1]; rfl))
   rw [k4]; cbv
   rw [k6]; cbv
   rw [k7]; cbv
   rw [g1]
   refine both (fun d3 => ?_) (fun d3 => ?_) <;> rw [d3] <;> cbv
   ·rw [hQ]; cbv
    exact congrArg some (rC (by rw [F.not_f d2, F.not_f d1, d3]; rfl))
   rw [k5']; cbv
   rw [k6]; cbv
   rw [k8]; cbv
   rw [g2]
   refine both (fun d4 => ?_) (fun d4 => ?_) <;> rw [d4] <;> cbv
   ·rw [hQ]; cbv
    exact congrArg some (rC (by rw [F.not_f d2, F.not_f d1, d3, show z2 = false by simpa using d4]; rfl))
   rw [k9]; cbv
   rw [hQ]; cbv
   exact congrArg some (rA (by rw [F.not_f d2, F.not_f d1, d3, show z2 = true by simpa using d4]; rfl))
theorem ok210f (h : Hello) (path : List Box) (vs tg : List Int) (k : Int) (mh : h.Mid) (pl : path.length ≤ 1073741824) (pm : ∀ y ∈ path, y.Mid) (hv : vs.length ≤ 1073741824) (ht : tg.length ≤ 1073741824) {f0 f1 f2 f3 f4 : Fl} (q0 : inFl f0 = true) (q1 : inFl f1 = true) (q2 : inFl f2 = true) (q3 : inFl f3 = true) (q4 : inFl f4 = true) :
  fix Tb md 210 [sHello (row fI h.versions) (row fExt h.exts) f0 f1, R (row fBox path) f2, R (row fI vs) f3, R (row fI tg) f4, I k] = some ⟨[sDeal (doV h path vs tg k).ok (doV h path vs tg k).version (row fI (doV h path vs tg k).tags) (tF (doOk h path vs tg k))], [], none⟩ := by
 cases q : doOk h path vs tg k with
 | true =>
  refine ok210r h path vs tg k mh pl pm hv ht q0 q1 q2 q3 q4 _ (fun _ => ?_) (fun e => by rw [q] at e; cases e)
  rw [doV, q]; rfl
 | false =>
  rw [show doV h path vs tg k = ⟨false, 0, []⟩ by rw [doV, q]; rfl]
  exact ok210r h path vs tg k mh pl pm hv ht q0 q1 q2 q3 q4 _ (fun e => by rw [q] at e; cases e) (fun _ => rfl)
theorem ok267 (t k n : Int) : fix Tb md 267 [I t, ⟨.val, [⟨.ptr () [.int .i64 k, .int .i64 n], .sh⟩]⟩] = some ⟨[B (decide (t ≠ n))], [], none⟩ := by
 generalize hr : (⟨_, [], none⟩ : Ret) = r
 refine fix_fn2 (fn := ir267) tb_267 rfl rfl (by decide) rfl ?_; intro Q hQ; simp only [shutArgs, shutS, List.map_cons, List.map_nil, ir267, List.head?_nil, reduceCtorEq, if_false, sExt, sHello, sAnswer, sEdit, sDeal, sBox, sDialed, sKnown]
 intro add sub mul arith eq ne lt le gt ge neg conv mn mx not beq len at' ln bd cut app allS isNil mks set o hP F ho
 cbv
 rw [hQ]; cbv
 rw [← hr, F.ne]
theorem ok119 (a : Answer) (e : Edit) (hl : a.exts.length ≤ 1073741824) (w : ∀ y ∈ a.exts, y.body.length ≤ 1099511627776) {f0 : Fl} (h0 : inFl f0 = true) : fix Tb md 119 [sAnswer a.version (row fExt a.exts) f0, sEdit e.kind e.n] = some ⟨[sAnswer (editA a e).version (row fExt (editA a e).exts) (.ow false)], [], none⟩ := by
 obtain ⟨b1, hb1⟩ := nm (decide (e.kind = 4))
 obtain ⟨b2, hb2⟩ := nm (inR e.n 1 9)
 obtain ⟨b3, hb3⟩ := nm (decide (e.kind = 5))
 have h45 : b1 = true → b3 = false := by intro q; rw [hb1] at q; rw [hb3]; simp at q ⊢; omega
 have hv : editA a e = if (b1 && b2) = true then ⟨e.n, a.exts⟩ else if b3 = true then ⟨a.version, sel (notTag e.n) idE a.exts⟩ else a := by rw [hb1, hb2, hb3]; rfl
 obtain ⟨z, hz⟩ := nm (editA a e)
 rw [← hz] at hv ⊢
 have hA : b1 = true → b2 = true → z = ⟨e.n, a.exts⟩ := by intro q1 q2; rw [hv, q1, q2]; rfl
 have hB : (b1 && b2) = false → b3 = true → z = ⟨a.version, sel (notTag e.n) idE a.exts⟩ := by intro q1 q2; rw [hv, q1, q2]; rfl
 have hC : (b1 && b2) = false → b3 = false → z = a := by intro q1 q2; rw [hv, q1, q2]; rfl
 obtain ⟨et, het⟩ := nm (row fExt z.exts)
 rw [← het]
 generalize hr : (⟨_, [], none⟩ : Ret) = r
 obtain ⟨ea, hea⟩ := nm (row fExt a.exts)
 rw [← hea]
 obtain ⟨ed, hed⟩ := nm (row fExt (sel (notTag e.n) idE a.exts))
 refine fix_fn2 (fn := ir119) tb_119 rfl rfl (by decide) rfl ?_; intro Q hQ; simp only [shutArgs, shutS, List.map_cons, List.map_nil, ir119, shut_in h0, List.head?_nil, reduceCtorEq, if_false, sExt, sHello, sAnswer, sEdit, sDeal, sBox, sDialed, sKnown]
 intro add sub mul arith eq ne lt le gt ge neg conv mn mx not beq len at' ln bd cut app allS isNil mks set o hP F ho
 have c1 : o 266 [R ea (.sp 0 0)] = some ⟨[R ea (.ow false)], [], none⟩ := by rw [ho, hea]; exact ok266 _ hl w rfl
 have c2 : o 232 [I e.n, I 1, I 9] = some ⟨[B b2], [], none⟩ := by rw [ho, hb2]; exact ok232 ..
 have c3 : o 264 [R ea (.sp 0 0), ⟨.val, [⟨.fn 267 [.ptr () [.int .i64 e.kind, .int .i64 e.n]], .sh⟩]⟩] = some ⟨[R ed (.ow false)], [], none⟩ := by
  rw [ho, hed, hea]
  exact ok264_1 267 rfl _ (fun t => decide (t ≠ e.n)) a.exts hl w (fun x _ => ok267 x.tag e.kind e.n) rfl
 have g1 : eq e.kind 4 = b1 := by rw [F.eq, hb1]
 have g2 : eq e.kind 5 = b3 := by rw [F.eq, hb3]
 cbv
 rw [c1]; cbv
 rw [g1]; cbv
 refine both (fun d1 => ?_) (fun d1 => ?_) <;> rw [d1] <;> cbv
 ·rw [c2]; cbv
  refine both (fun d2 => ?_) (fun d2 => ?_) <;> rw [d2] <;> cbv
  ·rw [hQ]; cbv
   have hv := hA d1 d2
   rw [← hr, het, hv, hea]
  ·rw [hQ]; cbv
   have hv := hC (by rw [d1, d2]; rfl) (h45 d1)
   rw [← hr, het, hv, hea]
 ·rw [g2]; cbv
  refine both (fun d3 => ?_) (fun d3 => ?_) <;> rw [d3] <;> cbv
  ·rw [c3]; cbv
   rw [hQ]; cbv
   have hv := hB (by rw [d1]; rfl) d3
   rw [← hr, het, hv, hed]
  ·rw [hQ]; cbv
   have hv := hC (by rw [d1]; rfl) d3
   rw [← hr, het, hv, hea]
theorem ok114 (k : Int) : fix Tb md 114 [I k] = some ⟨[B (vKey k)], [], none⟩ := by
 obtain ⟨a, ha⟩ := nm (vKey k)
 rw [← ha]
 generalize hr : (⟨_, [], none⟩ : Ret) = r
 refine fix_fn2 (fn := ir114) tb_114 rfl rfl (by decide) rfl ?_; intro Q hQ; simp only [shutArgs, shutS, List.map_cons, List.map_nil, ir114, List.head?_nil, reduceCtorEq, if_false, sExt, sHello, sAnswer, sEdit, sDeal, sBox, sDialed, sKnown]
 intro add sub mul arith eq ne lt le gt ge neg conv mn mx not beq len at' ln bd cut app allS isNil mks set o hP F ho
 have c1 : o 232 [I k, I 1, I 2147483646] = some ⟨[B a], [], none⟩ := by rw [ho, ha]; exact ok232 ..
 cbv
 rw [c1]; cbv
 rw [hQ]; cbv
 exact congrArg some hr
theorem ok349 (n m : Int) : fix Tb md 349 [I n, I m] = some ⟨[I (modV n m)], [], none⟩ := by
 obtain ⟨T, hT⟩ := nm (modV n m)
 rw [← hT]
 generalize hr : (⟨_, [], none⟩ : Ret) = r
 obtain ⟨v, hv⟩ := nm (inR m 1 1000000000000)
 refine fix_fn2 (fn := ir349) tb_349 rfl rfl (by decide) rfl ?_; intro Q hQ; simp only [shutArgs, shutS, List.map_cons, List.map_nil, ir349, List.head?_nil, reduceCtorEq, if_false, sExt, sHello, sAnswer, sEdit, sDeal, sBox, sDialed, sKnown]
 intro add sub mul arith eq ne lt le gt ge neg conv mn mx not beq len at' ln bd cut app allS isNil mks set o hP F ho
 have c1 : o 232 [I m, I 1, I 1000000000000] = some ⟨[B v], [], none⟩ := by rw [ho, hv]; exact ok232 ..
 cbv
 rw [c1]; cbv
 refine both (fun d1 => ?_) (fun d1 => ?_) <;> rw [d1] <;> cbv
 ·rw [hQ]; cbv
  have hv0 := F.not_t d1
  rw [← hr, hT]; unfold modV; rw [← hv, hv0]; rfl
 have hv1 := F.not_f d1
 have hm : m ≠ 0 := by rw [hv] at hv1; simp [inR] at hv1; omega
 obtain ⟨n1, hn1⟩ := nm (Int.tmod n m)
 obtain ⟨n2, hn2⟩ := nm (add .i64 n1 m)
 obtain ⟨n3, hn3⟩ := nm (Int.tmod n2 m)
 rw [show arith .rem .i64 n m = some (.int .i64 n1) by rw [F.arith, hn1]; exact rem_nz hm]; cbv
 rw [← hn2]
 rw [show arith .rem .i64 n2 m = some (.int .i64 n3) by rw [F.arith, hn3]; exact rem_nz hm]; cbv
 rw [hQ]; cbv
 rw [← hr, hT]; unfold modV; rw [← hv, hv1, if_pos rfl, hn3, hn2, hn1, F.add]
theorem ok269 (l : List Int) (hl : l.length ≤ 1099511627776) {f0 : Fl} (h0 : inFl f0 = true) : fix Tb md 269 [R (row fI l) f0] = some ⟨[I (hashV l)], [], none⟩ := by
 obtain ⟨T, hT⟩ := nm (hashV l)
 rw [← hT]
 generalize hr : (⟨_, [], none⟩ : Ret) = r
 obtain ⟨ea, hea⟩ := nm (row fI l)
 rw [← hea]
 refine fix_fn2 (fn := ir269) tb_269 rfl rfl (by decide) rfl ?_; intro Q hQ; simp only [shutArgs, shutS, List.map_cons, List.map_nil, ir269, shut_in h0, List.head?_nil, reduceCtorEq, if_false, sExt, sHello, sAnswer, sEdit, sDeal, sBox, sDialed, sKnown]
 intro add sub mul arith eq ne lt le gt ge neg conv mn mx not beq len at' ln bd cut app allS isNil mks set o hP F ho
 have la := F.len_at hea
 cbv
 refine loop_ind2 hP (σ := List Int × List Int × Int × Int × Option Int) (fun s => match s.2.2.2.2 with
   | none => [(0, R ea .sh), (2, I 0), (3, I s.2.2.1), (6, R ea .sh), (7, I (len ea)), (8, I s.2.2.2.1)]
   | some j => [(0, R ea .sh), (2, I 0), (3, I s.2.2.1), (5, I j), (6, R ea .sh), (7, I (len ea)), (8, I s.2.2.2.1)]) (fun s => At s.2.2.2.1 s.2.1.length ∧ l = s.2.1 ++ s.1 ∧ s.1.foldl hstep s.2.2.1 = T) (fun s => s.1.length) (l, [], 11, 0, none) rfl ⟨rfl, rfl, hT.symm⟩ ?_
 intro c1 Q1 hc1 hQ1
 rintro ⟨suf, pre, d, i, j⟩ ⟨hi, hl', hb⟩ ih
 simp only at hi hl' hb ih
 rcases j with _ | _
 all_goals
  cbv
  cases suf with
  | nil =>
   rw [F.lt_f hi la (by simp [hl'])]; cbv
   rw [hQ1]; cbv
   rw [hQ]; cbv
   rw [← hr, ← hb]; rfl
  | cons x suf =>
   rw [List.foldl_cons] at hb
   rw [F.lt_t hi la (by simp [hl'])]; cbv
   obtain ⟨ix, hix⟩ := nm (pre.length * 1)
   rw [show at' 1 ea i = some (ix, [.int .i64 x]) by rw [hix]; exact F.get hi hea hl' (fun _ => rfl) (by decide)]; cbv
   obtain ⟨v, hv⟩ := nm (modV x 2147483647)
   rw [show o 349 [I x, I 2147483647] = some ⟨[I v], [], none⟩ by rw [ho, hv]; exact ok349 ..]; cbv
   obtain ⟨d', hd'⟩ := nm (hstep d x)
   rw [show arith .rem .i64 (add .i64 (add .i64 (mul .i64 d 1000003) v) 13) 2147483647 = some (.int .i64 d') by rw [F.arith, hd', F.add, F.add, F.mul]; unfold hstep; rw [← hv]; exact rem_nz (by decide)]; cbv
   rw [← hd'] at hb
   refine ih (suf, pre ++ [x], d', add .i64 i 1, some x) ⟨at_len (F.inc hi (by simp [hl'] at hl; omega)) (by simp), by simp [hl'], hb⟩ (by simp)
theorem ok341_0 (g : Nat) (hg : md g = []) (p : (List Int) → Bool) (l : List (List Int)) (hl : l.length ≤ 1099511627776) (hp : ∀ x ∈ l, fix Tb md g [R (row fI x) (.sp 0 0)] = some ⟨[B (p x)], [], none⟩) {f0 : Fl} (h0 : inFl f0 = true) :
  fix Tb md 341 [R (row fR l) f0, ⟨.val, [⟨.fn g [], .sh⟩]⟩] = some ⟨[I (ixOf p l 0)], [], none⟩ := by
 generalize hm : md = m at hg hp ⊢
 refine fix_fn (fn := ir341) tb_341 rfl rfl (by decide) rfl ?_; simp only [shutArgs, shutS, List.map_cons, List.map_nil, ir341, shut_in h0, List.head?_nil, reduceCtorEq, if_false, sExt, sHello, sAnswer, sEdit, sDeal, sBox, sDialed, sKnown]
 generalize hr : (⟨_, [], none⟩ : Ret) = r
 obtain ⟨ea, hea⟩ := nm (row fR l)
 rw [← hea]
 intro add sub mul arith eq ne lt le gt ge neg conv mn mx not beq len at' ln bd cut app allS isNil mks set o hP F ho
 have la := F.len_at hea
 cbv
 refine loop_ind hP (σ := List (List Int) × List (List Int) × Int × Option Int) (fun s => match s.2.2.2 with | none => [(0, R ea .sh), (1, ⟨.val, [⟨.fn g [], .sh⟩]⟩), (4, I 0), (7, I (len ea)), (8, I s.2.2.1)] | some j => [(0, R ea .sh), (1, ⟨.val, [⟨.fn g [], .sh⟩]⟩), (4, I 0), (5, I j), (7, I (len ea)), (8, I s.2.2.1)])
  (fun s => At s.2.2.1 s.2.1.length ∧ l = s.2.1 ++ s.1 ∧ ixOf p s.1 (s.2.1.length : Int) = ixOf p l 0) (fun s => s.1.length) (l, [], 0, none) rfl ⟨rfl, rfl, rfl⟩ ?_
 rintro ⟨suf, pre, i, j⟩ ⟨hi, hl', hx⟩ ih
 simp only at hi hl' hx ih
 have hi' : i = (pre.length : Int) := hi
 rw [← hi'] at hx
 cases j <;> cbv <;> (
  cases suf with
  | nil =>
   rw [F.lt_f hi la (by simp [hl'])]; cbv
   rw [← hr, ← hx]; rfl
  | cons x suf =>
   rw [F.lt_t hi la (by simp [hl'])]; cbv
   obtain ⟨e1, he1⟩ := nm (row fI x)
   obtain ⟨ix, hix⟩ := nm (pre.length * 1)
   rw [show at' 1 ea i = some (ix, [.row () e1]) by rw [hix, he1]; exact F.get hi hea hl' (fun _ => rfl) (by decide)]; cbv
   obtain ⟨v, hv⟩ := nm (p x)
   have c1 : o g [R e1 (.sp 0 0)] = some ⟨[B v], [], none⟩ := by rw [ho, hv, he1]; exact hp x (by rw [hl']; simp)
   rw [hg]; cbv
   rw [c1]; cbv
   have hx1 : ixOf p (x :: suf) i = if p x = true then i else ixOf p suf (i + 1) := rfl
   rw [hx1] at hx
   refine both (fun c => ?_) (fun c => ?_) <;> rw [c] <;> cbv
   ·rw [← hv, if_pos c] at hx
    rw [← hr, ← hx]
   ·rw [← hv, if_neg (by simp [c])] at hx
    refine ih (suf, pre ++ [x], add .i64 i 1, some i) ⟨at_len (F.inc hi (by simp [hl'] at hl; omega)) (by simp), by simp [hl'], ?_⟩ (by simp)
    rw [← hx, hi']
    simp)
theorem ok341_1 (g : Nat) (hg : md g = []) (k0 : V) (p : (List Int) → Bool) (l : List (List Int)) (hl : l.length ≤ 1099511627776) (hp : ∀ x ∈ l, fix Tb md g [R (row fI x) (.sp 0 0), ⟨.val, [⟨k0, .sh⟩]⟩] = some ⟨[B (p x)], [], none⟩) {f0 : Fl} (h0 : inFl f0 = true) :
  fix Tb md 341 [R (row fR l) f0, ⟨.val, [⟨.fn g [k0], .sh⟩]⟩] = some ⟨[I (ixOf p l 0)], [], none⟩ := by
 generalize hm : md = m at hg hp ⊢
 refine fix_fn (fn := ir341) tb_341 rfl rfl (by decide) rfl ?_; simp only [shutArgs, shutS, List.map_cons, List.map_nil, ir341, shut_in h0, List.head?_nil, reduceCtorEq, if_false, sExt, sHello, sAnswer, sEdit, sDeal, sBox, sDialed, sKnown]
 generalize hr : (⟨_, [], none⟩ : Ret) = r
 obtain ⟨ea, hea⟩ := nm (row fR l)
 rw [← hea]
 intro add sub mul arith eq ne lt le gt ge neg conv mn mx not beq len at' ln bd cut app allS isNil mks set o hP F ho
 have la := F.len_at hea
 cbv
 refine loop_ind hP (σ := List (List Int) × List (List Int) × Int × Option Int) (fun s => match s.2.2.2 with | none => [(0, R ea .sh), (1, ⟨.val, [⟨.fn g [k0], .sh⟩]⟩), (4, I 0), (7, I (len ea)), (8, I s.2.2.1)] | some j => [(0, R ea .sh), (1, ⟨.val, [⟨.fn g [k0], .sh⟩]⟩), (4, I 0), (5, I j), (7, I (len ea)), (8, I s.2.2.1)])
  (fun s => At s.2.2.1 s.2.1.length ∧ l = s.2.1 ++ s.1 ∧ ixOf p s.1 (s.2.1.length : Int) = ixOf p l 0) (fun s => s.1.length) (l, [], 0, none) rfl ⟨rfl, rfl, rfl⟩ ?_
 rintro ⟨suf, pre, i, j⟩ ⟨hi, hl', hx⟩ ih
 simp only at hi hl' hx ih
 have hi' : i = (pre.length : Int) := hi
 rw [← hi'] at hx
 cases j <;> cbv <;> (
  cases suf with
  | nil =>
   rw [F.lt_f hi la (by simp [hl'])]; cbv
   rw [← hr, ← hx]; rfl
  | cons x suf =>
   rw [F.lt_t hi la (by simp [hl'])]; cbv
   obtain ⟨e1, he1⟩ := nm (row fI x)
   obtain ⟨ix, hix⟩ := nm (pre.length * 1)
   rw [show at' 1 ea i = some (ix, [.row () e1]) by rw [hix, he1]; exact F.get hi hea hl' (fun _ => rfl) (by decide)]; cbv
   obtain ⟨v, hv⟩ := nm (p x)
   have c1 : o g [R e1 (.sp 0 0), ⟨.val, [⟨k0, .sh⟩]⟩] = some ⟨[B v], [], none⟩ := by rw [ho, hv, he1]; exact hp x (by rw [hl']; simp)
   rw [hg]; cbv
   rw [c1]; cbv
   have hx1 : ixOf p (x :: suf) i = if p x = true then i else ixOf p suf (i + 1) := rfl
   rw [hx1] at hx
   refine both (fun c => ?_) (fun c => ?_) <;> rw [c] <;> cbv
   ·rw [← hv, if_pos c] at hx
    rw [← hr, ← hx]
   ·rw [← hv, if_neg (by simp [c])] at hx
    refine ih (suf, pre ++ [x], add .i64 i 1, some i) ⟨at_len (F.inc hi (by simp [hl'] at hl; omega)) (by simp), by simp [hl'], ?_⟩ (by simp)
    rw [← hx, hi']
    simp)
theorem ok234_0 (g : Nat) (hg : md g = []) (p : (List Int) → Bool) (l : List (List Int)) (hl : l.length ≤ 1099511627776) (hp : ∀ x ∈ l, fix Tb md g [R (row fI x) (.sp 0 0)] = some ⟨[B (p x)], [], none⟩) {f0 : Fl} (h0 : inFl f0 = true) :
  fix Tb md 234 [R (row fR l) f0, ⟨.val, [⟨.fn g [], .sh⟩]⟩] = some ⟨[B (l.any p)], [], none⟩ := by
 refine fix_fn (fn := ir234) tb_234 rfl rfl (by decide) rfl ?_; simp only [shutArgs, shutS, List.map_cons, List.map_nil, ir234, shut_in h0, List.head?_nil, reduceCtorEq, if_false, sExt, sHello, sAnswer, sEdit, sDeal, sBox, sDialed, sKnown]
 generalize hr : (⟨_, [], none⟩ : Ret) = r
 obtain ⟨ea, hea⟩ := nm (row fR l)
 rw [← hea]
 obtain ⟨v, hv⟩ := nm (ixOf p l 0)
 have hv2 : decide (0 ≤ v) = l.any p := by rw [hv]; exact ixOf_ge p l 0 (by decide)
 rw [← hv2] at hr
 clear hv2
 intro add sub mul arith eq ne lt le gt ge neg conv mn mx not beq len at' ln bd cut app allS isNil mks set o hP F ho
 have c1 : o 341 [R ea (.sp 0 0), ⟨.val, [⟨.fn g [], .sh⟩]⟩] = some ⟨[I v], [], none⟩ := by rw [ho, hv, hea]; exact ok341_0 g hg p l hl hp rfl
 cbv
 rw [c1]; cbv
 rw [← hr, F.ge]
theorem ok234_1 (g : Nat) (hg : md g = []) (k0 : V) (p : (List Int) → Bool) (l : List (List Int)) (hl : l.length ≤ 1099511627776) (hp : ∀ x ∈ l, fix Tb md g [R (row fI x) (.sp 0 0), ⟨.val, [⟨k0, .sh⟩]⟩] = some ⟨[B (p x)], [], none⟩) {f0 : Fl} (h0 : inFl f0 = true) :
  fix Tb md 234 [R (row fR l) f0, ⟨.val, [⟨.fn g [k0], .sh⟩]⟩] = some ⟨[B (l.any p)], [], none⟩ := by
 refine fix_fn (fn := ir234) tb_234 rfl rfl (by decide) rfl ?_; simp only [shutArgs, shutS, List.map_cons, List.map_nil, ir234, shut_in h0, List.head?_nil, reduceCtorEq, if_false, sExt, sHello, sAnswer, sEdit, sDeal, sBox, sDialed, sKnown]
 generalize hr : (⟨_, [], none⟩ : Ret) = r
 obtain ⟨ea, hea⟩ := nm (row fR l)
 rw [← hea]
 obtain ⟨v, hv⟩ := nm (ixOf p l 0)
 have hv2 : decide (0 ≤ v) = l.any p := by rw [hv]; exact ixOf_ge p l 0 (by decide)
 rw [← hv2] at hr
 clear hv2
 intro add sub mul arith eq ne lt le gt ge neg conv mn mx not beq len at' ln bd cut app allS isNil mks set o hP F ho
 have c1 : o 341 [R ea (.sp 0 0), ⟨.val, [⟨.fn g [k0], .sh⟩]⟩] = some ⟨[I v], [], none⟩ := by rw [ho, hv, hea]; exact ok341_1 g hg k0 p l hl hp rfl
 cbv
 rw [c1]; cbv
 rw [← hr, F.ge]
theorem ok235 (l : List Int) (hl : l.length ≤ 1099511627776) {f0 : Fl} (h0 : inFl f0 = true) : fix Tb md 235 [R (row fI l) f0] = some ⟨[B (!bytes l)], [], none⟩ := by
 refine fix_fn (fn := ir235) tb_235 rfl rfl (by decide) rfl ?_; simp only [shutArgs, shutS, List.map_cons, List.map_nil, ir235, shut_in h0, List.head?_nil, reduceCtorEq, if_false, sExt, sHello, sAnswer, sEdit, sDeal, sBox, sDialed, sKnown]
 generalize hr : (⟨_, [], none⟩ : Ret) = r
 obtain ⟨v, hv⟩ := nm (bytes l)
 obtain ⟨ea, hea⟩ := nm (row fI l)
 rw [← hv] at hr
 rw [← hea]
 intro add sub mul arith eq ne lt le gt ge neg conv mn mx not beq len at' ln bd cut app allS isNil mks set o hP F ho
 have c1 : o 233 [R ea (.sp 0 0), I 0, I 255] = some ⟨[B v], [], none⟩ := by rw [ho, hv, hea]; exact ok233 _ _ _ hl rfl
 cbv
 rw [c1]; cbv
 rw [← hr, F.not]
theorem ok73 (l : List (List Int)) (w : l.length ≤ 1048576 ∧ ∀ y ∈ l, y.length ≤ 1048576) {f0 : Fl} (h0 : inFl f0 = true) : fix Tb md 73 [R (row fR l) f0] = some ⟨[B (isTr l)], [], none⟩ := by
 have w1 := w.1
 refine fix_fn (fn := ir73) tb_73 rfl rfl (by decide) rfl ?_; simp only [shutArgs, shutS, List.map_cons, List.map_nil, ir73, shut_in h0, List.head?_nil, reduceCtorEq, if_false, sExt, sHello, sAnswer, sEdit, sDeal, sBox, sDialed, sKnown]
 generalize hr : (⟨_, [], none⟩ : Ret) = r
 obtain ⟨v, hv⟩ := nm (l.any fun y => !bytes y)
 have e : isTr l = (decide (l.length ≤ 12) && !v) := by rw [hv]; unfold isTr; rw [List.all_eq_not_any_not, Bool.and_comm]
 obtain ⟨ea, hea⟩ := nm (row fR l)
 rw [e] at hr
 rw [← hea]
 intro add sub mul arith eq ne lt le gt ge neg conv mn mx not beq len at' ln bd cut app allS isNil mks set o hP F ho
 have la := F.len_at hea
 have c1 : o 234 [R ea (.sp 0 0), ⟨.val, [⟨.fn 235 [], .sh⟩]⟩] = some ⟨[B v], [], none⟩ := by rw [ho, hv, hea]; exact ok234_0 235 rfl _ l (by omega) (fun x hx => ok235 x (by have := w.2 x hx; omega) rfl) rfl
 cbv
 repeat' (first | (rw [c1]; cbv) | (refine both (fun c => ?_) (fun c => ?_) <;> (try rw [c]) <;> (try cbv)))
 all_goals (clear hP c1 ho; unfold At at la; try simp only [F.eq, F.ne, F.le, F.lt, F.ge, F.gt, F.not, F.beq, la] at *; clear F; subst hr)
 all_goals (simp_all [] <;> (intros; omega))
theorem ok121 (l : List (List Int)) (w : l.length ≤ 1048576 ∧ ∀ y ∈ l, y.length ≤ 1048576) {f0 : Fl} (h0 : inFl f0 = true) : fix Tb md 121 [R (row fR l) f0] = some ⟨[I (thash l)], [], none⟩ := by
 have w1 := w.1
 obtain ⟨T, hT⟩ := nm (thash l)
 rw [← hT]
 generalize hr : (⟨_, [], none⟩ : Ret) = r
 obtain ⟨ea, hea⟩ := nm (row fR l)
 rw [← hea]
 obtain ⟨u, hu⟩ := nm (isTr l)
 refine fix_fn2 (fn := ir121) tb_121 rfl rfl (by decide) rfl ?_; intro Q hQ; simp only [shutArgs, shutS, List.map_cons, List.map_nil, ir121, shut_in h0, List.head?_nil, reduceCtorEq, if_false, sExt, sHello, sAnswer, sEdit, sDeal, sBox, sDialed, sKnown]
 intro add sub mul arith eq ne lt le gt ge neg conv mn mx not beq len at' ln bd cut app allS isNil mks set o hP F ho
 have la := F.len_at hea
 have c1 : o 73 [R ea (.sp 0 0)] = some ⟨[B u], [], none⟩ := by rw [ho, hu, hea]; exact ok73 _ w rfl
 cbv
 rw [c1]; cbv
 refine both (fun d1 => ?_) (fun d1 => ?_) <;> rw [d1] <;> cbv
 ·rw [hQ]; cbv
  rw [← hr, hT]; unfold thash; rw [← hu, F.not_t d1]; rfl
 have hT' : T = l.foldl hcons 1 := by rw [hT]; unfold thash; rw [← hu, F.not_f d1]; rfl
 refine loop_ind2 hP (σ := List (List Int) × List (List Int) × Int × Int × Option (List (List V))) (fun s => match s.2.2.2.2 with
   | none => [(0, R ea .sh), (2, I 0), (3, I s.2.2.1), (9, R ea .sh), (10, I (len ea)), (11, I s.2.2.2.1)]
   | some j => [(0, R ea .sh), (2, I 0), (3, I s.2.2.1), (5, R j .sh), (9, R ea .sh), (10, I (len ea)), (11, I s.2.2.2.1)]) (fun s => At s.2.2.2.1 s.2.1.length ∧ l = s.2.1 ++ s.1 ∧ s.1.foldl hcons s.2.2.1 = T) (fun s => s.1.length) (l, [], 1, 0, none) rfl ⟨rfl, rfl, hT'.symm⟩ ?_
 intro c1 Q1 hc1 hQ1
 rintro ⟨suf, pre, d, i, j⟩ ⟨hi, hl', hb⟩ ih
 simp only at hi hl' hb ih
 rcases j with _ | _
 all_goals
  cbv
  cases suf with
  | nil =>
   rw [F.lt_f hi la (by simp [hl'])]; cbv
   rw [hQ1]; cbv
   rw [hQ]; cbv
   rw [← hr, ← hb]; rfl
  | cons x suf =>
   have hx := w.2 x (by rw [hl']; simp)
   rw [List.foldl_cons] at hb
   obtain ⟨nx, hnx⟩ := nm ((x.length : Int))
   have hc : hcons d x = hashV (d :: nx :: x) := by rw [hnx]; rfl
   rw [F.lt_t hi la (by simp [hl'])]; cbv
   obtain ⟨ix, hix⟩ := nm (pre.length * 1)
   obtain ⟨e1, he1⟩ := nm (row fI x)
   have l1 : len e1 = nx := by rw [hnx]; exact F.len_at he1
   have p0 : at' 1 ea i = some (ix, [.row () e1]) := by rw [hix, he1]; exact F.get hi hea hl' (fun _ => rfl) (by decide)
   rw [p0]; cbv
   try (rw [show allS e1 = true from F.scal he1 (fun _ => rfl)])
   try (rw [l1])
   cbv
   obtain ⟨e2, he2⟩ := nm (row fI (d :: nx :: x))
   rw [show app 1 [[.int .i64 d], [.int .i64 nx]] e1 = some e2 by rw [F.app' (f := fI) (e1 := [[.int .i64 d], [.int .i64 nx]]) (l1 := [d, nx]) rfl he1 (fun _ => rfl) (by simp; omega), he2]; rfl]; cbv
   obtain ⟨d', hd'⟩ := nm (hcons d x)
   rw [show o 269 [R e2 (.sp 0 0)] = some ⟨[I d'], [], none⟩ by rw [ho, hd', hc, he2]; exact ok269 _ (by simp; omega) rfl]; cbv
   rw [← hd'] at hb
   refine ih (suf, pre ++ [x], d', add .i64 i 1, some e1) ⟨at_len (F.inc hi (by simp [hl'] at w1; omega)) (by simp), by simp [hl'], hb⟩ (by simp)
theorem ok355 (n : Int) (h0 : 0 < n) (h1 : n ≤ 1099511627776) : fix Tb md 355 [R [] .nl, I n] = some ⟨[R [] (.ow true)], [], none⟩ := by
 refine fix_special tb_355 (by decide) ?_
 show special 2 [⟨.val, [⟨.row () [], .nl⟩]⟩, ⟨.val, [⟨.int .i64 n, .sc⟩]⟩] = _
 have h2 : 0 < n ∧ n ≤ (lim : Int) := ⟨h0, by simpa [lim] using h1⟩
 simp only [special, h2, and_self, if_true]
theorem ok304 (ls : List (List Int)) (h1 : ls.length ≤ 1099511627776) (h2 : ls.flatten.length ≤ 1099511627776) (h3 : ls.flatten ≠ []) {f0 : Fl} (q0 : inFl f0 = true) : fix Tb md 304 [R (row fR ls) f0] = some ⟨[R (row fI ls.flatten) (.ow false)], [], none⟩ := by
 obtain ⟨et, het⟩ := nm (row fI ls.flatten)
 rw [← het]
 generalize hr : (⟨_, [], none⟩ : Ret) = r
 have h4 : 0 < ls.flatten.length := List.length_pos_iff.2 h3
 obtain ⟨N, hN⟩ := nm (ls.flatten.length)
 rw [← hN] at h2 h4
 obtain ⟨ea, hea⟩ := nm (row fR ls)
 rw [← hea]
 refine fix_fn2 (fn := ir304) tb_304 rfl rfl (by decide) rfl ?_; intro Q hQ; simp only [shutArgs, shutS, List.map_cons, List.map_nil, ir304, shut_in q0, List.head?_nil, reduceCtorEq, if_false, sExt, sHello, sAnswer, sEdit, sDeal, sBox, sDialed, sKnown]
 intro add sub mul arith eq ne lt le gt ge neg conv mn mx not beq len at' ln bd cut app allS isNil mks set o hP F ho
 have la := F.len_at hea
 cbv
 refine loop_ind2 hP (σ := List (List Int) × List (List Int) × Int × Int × Option (List (List V))) (fun s => match s.2.2.2.2 with
  | none => [(0, R ea .sh), (2, R [] .nl), (3, I s.2.2.1), (9, R ea .sh), (10, I (len ea)), (11, I s.2.2.2.1)]
  | some j => [(0, R ea .sh), (2, R [] .nl), (3, I s.2.2.1), (5, R j .sh), (9, R ea .sh), (10, I (len ea)), (11, I s.2.2.2.1)]) (fun s => At s.2.2.2.1 s.2.1.length ∧ ls = s.2.1 ++ s.1 ∧ At s.2.2.1 s.2.1.flatten.length ∧ (s.2.2.2.2 = none → s.2.1 = [])) (fun s => s.1.length) (ls, [], 0, 0, none) rfl ⟨rfl, rfl, rfl, fun _ => rfl⟩ ?_
 intro c9 Q1 hc9 hQ1
 rintro ⟨suf, pre, n, i, j⟩ ⟨hi, hl', hb, hj⟩ ih
 simp only at hi hl' hb hj ih
 cases suf with
 | nil =>
  have hpp : ls = pre := by rw [hl', List.append_nil]
  cases j with
  | none => exfalso; have := hj rfl; rw [this] at hpp; rw [hpp] at hN; simp at hN; omega
  | some je =>
   cbv
   rw [F.lt_f hi la (by simp [hl'])]; cbv
   rw [hQ1]; cbv
   have hn1 : 0 < n ∧ n ≤ 1099511627776 := by unfold At at hb; rw [← hpp, ← hN] at hb; omega
   have c1 : o 355 [R [] .nl, I n] = some ⟨[R [] (.ow true)], [], none⟩ := by rw [ho]; exact ok355 n hn1.1 hn1.2
   rw [c1]; cbv
   clear ih hj hQ1 hc9
   refine loop_ind2 hP (σ := List (List Int) × List (List Int) × List (List V) × Int × Option (List (List V) × Bool)) (fun s => match s.2.2.2.2 with
    | none => [(0, R ea .sh), (2, R [] .nl), (3, I n), (5, R je .sh), (6, R s.2.2.1 (.ow true)), (9, R ea .sh), (10, I (len ea)), (11, I i), (25, R ea .sh), (26, I (len ea)), (27, I s.2.2.2.1)]
    | some (k, true) => [(0, R ea .sh), (2, R [] .nl), (3, I n), (5, R je .sh), (6, R s.2.2.1 (.ow true)), (8, R k .sh), (9, R ea .sh), (10, I (len ea)), (11, I i), (25, R ea .sh), (26, I (len ea)), (27, I s.2.2.2.1)]
    | some (k, false) => [(0, R ea .sh), (2, R [] .nl), (3, I n), (5, R je .sh), (6, R s.2.2.1 (.ow false)), (8, R k .sh), (9, R ea .sh), (10, I (len ea)), (11, I i), (25, R ea .sh), (26, I (len ea)), (27, I s.2.2.2.1)]) (fun s => At s.2.2.2.1 s.2.1.length ∧ ls = s.2.1 ++ s.1 ∧ s.2.2.1 = row fI s.2.1.flatten ∧ (match s.2.2.2.2 with | some (_, false) => True | _ => s.2.1.flatten = [])) (fun s => s.1.length) (ls, [], [], 0, none) rfl ⟨rfl, rfl, rfl, rfl⟩ ?_
   intro c8 Q2 hc8 hQ2
   rintro ⟨suf, pre, eo, m, k⟩ ⟨hm, hk', he, hg⟩ ih
   simp only at hm hk' he hg ih
   rcases k with _ | ⟨kk, _ | _⟩
   all_goals
    simp only at hg
    cases suf with
    | nil =>
     have hp2 : ls = pre := by rw [hk', List.append_nil]
     first
      | (exfalso; rw [hp2, hg] at hN; simp at hN; omega)
      | (cbv
         rw [F.lt_f hm la (by simp [hk'])]; cbv
         rw [hQ2]; cbv
         rw [hQ]; cbv
         rw [← hr, het, he, hp2])
    | cons x suf =>
     have hpl : pre.flatten.length + x.length ≤ 1099511627776 := by
      have : ls.flatten.length = pre.flatten.length + (x.length + suf.flatten.length) := by rw [hk']; simp
      omega
     have hpr : pre.length < ls.length := by rw [hk']; simp
     obtain ⟨ix, hix⟩ := nm (pre.length * 1)
     obtain ⟨e1, he1⟩ := nm (row fI x)
     have p0 : at' 1 ea m = some (ix, [.row () e1]) := by rw [hix, he1]; exact F.get hm hea hk' (fun _ => rfl) (by decide)
     have p1 : allS e1 = true := F.scal he1 (fun _ => rfl)
     have p3 : isNil e1 = x.isEmpty := F.nil he1
     obtain ⟨eo', heo'⟩ := nm (row fI (pre ++ [x]).flatten)
     have p2 : app 1 eo e1 = some eo' := by
      rw [heo']
      have := F.app' (k := 1) he he1 (fun _ => rfl) hpl
      rw [this]; simp
     have hm' : At (add .i64 m 1) (pre ++ [x]).length := at_len (F.inc hm (by omega)) (by simp)
     have hk2 : ls = (pre ++ [x]) ++ suf := by rw [hk']; simp
     cbv
     rw [F.lt_t hm la (by simp [hk'])]; cbv
     rw [p0]; cbv
     rw [p1]; cbv
     rw [p2]; cbv
     first
      | (refine ih (suf, pre ++ [x], eo', add .i64 m 1, some (e1, false)) ⟨hm', hk2, heo', trivial⟩ (by simp))
      | (rw [p1]; cbv
         rw [p3]
         cases x with
         | nil => cbv; exact ih (suf, pre ++ [[]], eo', add .i64 m 1, some (e1, true)) ⟨hm', hk2, heo', by simp only; rw [List.flatten_append, hg]; rfl⟩ (by simp)
         | cons a x => cbv; exact ih (suf, pre ++ [a :: x], eo', add .i64 m 1, some (e1, false)) ⟨hm', hk2, heo', trivial⟩ (by simp))
 | cons x suf =>
  have hpl : pre.flatten.length + x.length ≤ 1099511627776 := by
   have : ls.flatten.length = pre.flatten.length + (x.length + suf.flatten.length) := by rw [hl']; simp
   omega
  have hpr : pre.length < ls.length := by rw [hl']; simp
  obtain ⟨ix, hix⟩ := nm (pre.length * 1)
  obtain ⟨e1, he1⟩ := nm (row fI x)
  have lx := F.len_at he1
  have p0 : at' 1 ea i = some (ix, [.row () e1]) := by rw [hix, he1]; exact F.get hi hea hl' (fun _ => rfl) (by decide)
  have hb' : At (add .i64 n (len e1)) (pre ++ [x]).flatten.length := by
   unfold At at *
   rw [F.add, hb, lx, wrap64 (by omega) (by omega)]; simp
  have g1 : lt (add .i64 n (len e1)) 0 = false := F.lt_f hb' at0 (Nat.zero_le _)
  have hi' : At (add .i64 i 1) (pre ++ [x]).length := at_len (F.inc hi (by omega)) (by simp)
  have hl2 : ls = (pre ++ [x]) ++ suf := by rw [hl']; simp
  rcases j with _ | _
  all_goals
   cbv
   rw [F.lt_t hi la (by simp [hl'])]; cbv
   rw [p0]; cbv
   rw [g1]; cbv
   exact ih (suf, pre ++ [x], add .i64 n (len e1), add .i64 i 1, some e1) ⟨hi', hl2, hb', by simp⟩ (by simp)
end Go.Vm
