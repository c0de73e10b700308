/- What the functions answer. -/
import Derived.Test.YtmojgceacpclpaaGLTab
import Derived.Test.YtmojgceacpclpaaGLFA
import Derived.Test.YtmojgceacpclpaaGLFE
import Derived.Test.YtmojgceacpclpaaGLFF
set_option maxHeartbeats 4000000
set_option maxRecDepth 10000
set_option linter.unusedVariables false
set_option linter.unusedSimpArgs false
namespace Go.Vm
def spGo (st : Int) (l : List Move) : Int → List Move → Bool
 | _, [] => true
 | n, x :: suf => inM st x && !decide (mvOf l x.src x.send x.msg < n) && !decide (0 < (mvS l x.src (!x.send)).length) && spGo st l (n + 1) suf
theorem ixOf_cat {α : Type} (p : α → Bool) (b : List α) : ∀ (a : List α) (i : Int), ixOf p (a ++ b) i = if a.any p = true then ixOf p a i else ixOf p b (i + (a.length : Int))
 | [], i => by simp
 | x :: a, i => by
  rw [List.cons_append, List.any_cons]
  by_cases hx : p x = true
  ·simp [ixOf, hx]
  ·rw [show ixOf p (x :: (a ++ b)) i = ixOf p (a ++ b) (i + 1) by simp [ixOf, hx], show ixOf p (x :: a) i = ixOf p a (i + 1) by simp [ixOf, hx], ixOf_cat p b a (i + 1)]
   simp only [Bool.not_eq_true] at hx
   rw [hx, Bool.false_or]
   congr 2
   simp; omega
theorem ixOf_ltn {α : Type} (p : α → Bool) : ∀ (a : List α) (i : Int), a.any p = true → ixOf p a i < i + (a.length : Int)
 | [], i, h => by simp at h
 | x :: a, i, h => by
  unfold ixOf
  by_cases hx : p x = true
  ·rw [if_pos hx]; simp; omega
  ·rw [if_neg hx]
   have := ixOf_ltn p a (i + 1) (by simpa [hx] using h)
   simp; omega
theorem mvOf_lt {pre suf : List Move} {x : Move} : decide (mvOf (pre ++ x :: suf) x.src x.send x.msg < (pre.length : Int)) = pre.any (isMv x.src x.send x.msg) := by
 have hx : isMv x.src x.send x.msg x = true := by unfold isMv; simp
 unfold mvOf
 rw [ixOf_cat]
 by_cases h : pre.any (isMv x.src x.send x.msg) = true
 ·rw [if_pos h, h, decide_eq_true_eq]
  have := ixOf_ltn (isMv x.src x.send x.msg) pre 0 h
  omega
 ·rw [if_neg h]
  simp only [Bool.not_eq_true] at h
  rw [h, decide_eq_false_iff_not]
  rw [show ixOf (isMv x.src x.send x.msg) (x :: suf) (0 + (pre.length : Int)) = 0 + (pre.length : Int) by simp [ixOf, hx]]
  omega
theorem mvS_nil {l : List Move} {s : Int} {d : Bool} : decide (0 < (mvS l s d).length) = false ↔ ∀ n, ¬ has l s d n := by
 rw [decide_eq_false_iff_not]
 constructor
 ·intro h n hn
  exact h (List.length_pos_of_mem (mvS_mem.2 hn))
 ·intro h hp
  obtain ⟨n, hn⟩ := List.exists_mem_of_length_pos hp
  exact h n (mvS_mem.1 hn)
theorem mvOk_okM {st : Int} {l : List Move} (h : mvOk st [] l = true) : okM l := by
 obtain ⟨_, h6⟩ := mvOk_iff.1 h
 unfold okM
 refine h6.imp fun {x o} h => ?_
 rintro ⟨e, e2⟩
 unfold clash at h
 simp [e] at h
 rcases e2 with e2 | e2
 ·exact e2 h.1
 ·exact h.2 e2
theorem spGo_mvOk {st : Int} {l : List Move} : ∀ (suf pre : List Move), l = pre ++ suf → spGo st l (pre.length : Int) suf = true → mvOk st pre suf = true
 | [], pre, _, _ => rfl
 | x :: suf, pre, hl, h => by
  unfold spGo at h
  simp only [Bool.and_eq_true, Bool.not_eq_true'] at h
  obtain ⟨⟨⟨h1, h2⟩, h3⟩, h4⟩ := h
  unfold mvOk
  simp only [Bool.and_eq_true, Bool.not_eq_true']
  refine ⟨⟨h1, ?_⟩, spGo_mvOk (l := l) suf (pre ++ [x]) (by rw [hl]; simp) (by simpa using h4)⟩
  rw [hl, mvOf_lt] at h2
  rw [List.any_eq_false] at h2 ⊢
  intro y hy hc
  unfold clash at hc
  simp only [Bool.and_eq_true, decide_eq_true_eq, Bool.or_eq_true, Bool.not_eq_true', decide_eq_false_iff_not] at hc
  obtain ⟨c1, c2⟩ := hc
  by_cases hs : y.send = x.send
  ·refine h2 y hy (isMv_iff.2 ⟨c1, hs, ?_⟩)
   rcases c2 with c2 | c2
   ·exact absurd hs c2
   ·exact c2
  ·refine mvS_nil.1 h3 y.msg ⟨y.dst, y, by rw [hl]; simp [hy], c1, ?_, rfl, rfl⟩
   cases hx : x.send <;> cases hy2 : y.send <;> simp_all
theorem mvOk_spGo {st : Int} {l : List Move} (hk : okM l) : ∀ (suf pre : List Move), l = pre ++ suf → mvOk st pre suf = true → spGo st l (pre.length : Int) suf = true
 | [], pre, _, _ => rfl
 | x :: suf, pre, hl, h => by
  unfold mvOk at h
  simp only [Bool.and_eq_true, Bool.not_eq_true'] at h
  obtain ⟨⟨h1, h2⟩, h3⟩ := h
  unfold spGo
  simp only [Bool.and_eq_true, Bool.not_eq_true']
  refine ⟨⟨⟨h1, ?_⟩, ?_⟩, by have := mvOk_spGo (l := l) hk suf (pre ++ [x]) (by rw [hl]; simp) h3; simpa using this⟩
  ·rw [hl, mvOf_lt, List.any_eq_false]
   rw [List.any_eq_false] at h2
   intro y hy hc
   obtain ⟨c1, c2, c3⟩ := isMv_iff.1 hc
   refine h2 y hy ?_
   unfold clash
   simp [c1, c2, c3]
  ·refine mvS_nil.2 fun n => ?_
   rintro ⟨t, y, hy, c1, c2, _⟩
   have := (hk.kind x (by rw [hl]; simp) y hy c1.symm).1
   rw [c2] at this
   cases hx : x.send <;> simp [hx] at this
theorem spGo_eq {st : Int} {l : List Move} : spGo st l 0 l = mvOk st [] l := by
 rw [Bool.eq_iff_iff]
 exact ⟨spGo_mvOk l [] rfl, fun h => mvOk_spGo (mvOk_okM h) l [] rfl h⟩
theorem ok326 (st : Int) (es : List Bool) (l : List Move) (he : es.length ≤ 1073741824) (hl : l.length ≤ 1073741824) {f0 f1 : Fl} (h0 : inFl f0 = true) (h1 : inFl f1 = true) : fix Tb md 326 [sMach st (row fB es) (row fMove l) f0 f1] = some ⟨[B (mchO st es l)], [], none⟩ := by
 obtain ⟨T, hT⟩ := nm (mchO st es l)
 rw [← hT]
 generalize hr : (⟨_, [], none⟩ : Ret) = r
 obtain ⟨u1, hu1⟩ := nm (inR st 1 6)
 obtain ⟨u2, hu2⟩ := nm (decide ((es.length : Int) = st))
 obtain ⟨u3, hu3⟩ := nm (decide (12 < (l.length : Int)))
 have hT' : T = (u1 && u2 && !u3 && spGo st l 0 l) := by rw [spGo_eq, hT, hu1, hu2, hu3]; rfl
 have hst : u1 = true → IntKind.wrap .i64 (st - 1) = st - 1 := fun q => by rw [hu1] at q; unfold inR at q; simp at q; rw [wrap64 (by omega) (by omega)]
 obtain ⟨m1, hm1⟩ := nm (st - 1)
 rw [← hm1] at hst
 have hl12 : u3 = false → l.length ≤ 12 := fun q => by rw [hu3, decide_eq_false_iff_not] at q; omega
 have k1 := fun s d n => ok366 st es l s d n (by omega) (f0 := .sp 0 1) (f1 := .sp 0 2) rfl rfl
 have k2 := fun (hq : l.length ≤ 12) s d => ok367 st es l s d (by omega) (f0 := .sp 0 1) (f1 := .sp 0 2) rfl rfl
 obtain ⟨ea, hea⟩ := nm (row fMove l)
 obtain ⟨eb, heb⟩ := nm (row fB es)
 rw [← hea, ← heb] at k1 k2
 rw [← hea, ← heb]
 have fin : ∀ v, T = v → some (⟨[B v], [], none⟩ : Ret) = some r := fun v e => by rw [← e, hr]
 refine fix_fn2 (fn := ir326) tb_326 rfl rfl (by decide) rfl ?_; intro Q hQ; simp only [shutArgs, shutS, List.map_cons, List.map_nil, ir326, shut_in h0, shut_in h1, List.head?_nil, reduceCtorEq, if_false, sExt, sHello, sAnswer, sEdit, sDeal, sBox, sDialed, sKnown, sMach, sMove]
 intro add sub mul arith eq ne lt le gt ge neg conv mn mx not beq len at' ln bd cut app allS isNil mks set o hP F ho
 rw [← ho] at k1 k2
 have la := F.len_at hea
 have c1 : o 230 [I st, I 1, I 6] = some ⟨[B u1], [], none⟩ := by rw [ho, hu1]; exact ok230 ..
 have g2 : ne (len eb) st = !u2 := by rw [F.ne, show len eb = (es.length : Int) from F.len_at heb, hu2]; simp
 have g3 : gt (len ea) 12 = u3 := by rw [F.gt, show len ea = (l.length : Int) from la, hu3]
 have gn : ∀ b, not b = !b := F.not
 cbv
 rw [c1]; cbv
 refine both (fun d1 => ?_) (fun d1 => ?_) <;> rw [d1] <;> cbv
 ·rw [hQ]; cbv
  rw [F.not_t d1] at hT'
  exact fin _ (by rw [hT']; rfl)
 ·have e1 := F.not_f d1
  rw [e1] at hT'
  have hs : sub .i64 st 1 = m1 := by rw [F.sub, ← hm1]; exact hst e1
  rw [g2]
  refine both (fun d2 => ?_) (fun d2 => ?_) <;> rw [d2] <;> cbv
  ·have e2 : u2 = false := by simpa using d2
   rw [hQ]; cbv
   rw [e2] at hT'
   exact fin _ (by rw [hT']; rfl)
  ·have e2 : u2 = true := by simpa using d2
   rw [g3]
   refine both (fun d3 => ?_) (fun d3 => ?_) <;> rw [d3] <;> cbv
   ·rw [hQ]; cbv
    rw [e2, d3] at hT'
    exact fin _ (by rw [hT']; rfl)
   ·rw [e2, d3] at hT'
    have hT1 : T = spGo st l 0 l := hT'
    have hl12' := hl12 d3
    have k2' := k2 hl12'
    clear hT' hl12 g2 g3 c1 d1 d2 d3 hst k2
    refine loop_ind2 hP (σ := List Move × List Move × Int × Option Move) (fun s => match s.2.2.2 with
     | none => [(0, sMach st eb ea .sh .sh), (1, ⟨.ptr 81 0, []⟩), (2, B false), (3, I s.2.2.1), (81, ⟨.box (), [⟨.int .i64 st, .sc⟩, ⟨.row () eb, .sh⟩, ⟨.row () ea, .sh⟩]⟩)]
     | some j => [(0, sMach st eb ea .sh .sh), (1, ⟨.ptr 81 0, []⟩), (2, B false), (3, I s.2.2.1), (4, ⟨.ptr 84 0, []⟩), (81, ⟨.box (), [⟨.int .i64 st, .sc⟩, ⟨.row () eb, .sh⟩, ⟨.row () ea, .sh⟩]⟩), (84, ⟨.box (), [⟨.int .i64 j.src, .sc⟩, ⟨.bool j.send, .sc⟩, ⟨.int .i64 j.msg, .sc⟩, ⟨.int .i64 j.dst, .sc⟩]⟩)])
     (fun s => At s.2.2.1 s.2.1.length ∧ l = s.2.1 ++ s.1 ∧ spGo st l s.2.2.1 s.1 = T) (fun s => s.1.length) (l, [], 0, none) rfl ⟨rfl, rfl, hT1.symm⟩ ?_
    clear hT1
    intro c9 Q1 hc9 hQ1
    rintro ⟨suf, pre, i, j⟩ ⟨hi, hl', hb⟩ ih
    simp only at hi hl' hb ih
    cases suf with
    | nil =>
     have gl : lt i (len ea) = false := F.lt_f hi la (by simp [hl'])
     clear ih
     rcases j with _ | ⟨j1, j2, j3, j4⟩
     all_goals
      cbv
      rw [gl]; cbv
      rw [hQ1]; cbv
      rw [hQ]; cbv
      exact fin _ (by rw [← hb]; rfl)
    | cons x suf =>
     obtain ⟨x1, x2, x3, x4⟩ := x
     have gl : lt i (len ea) = true := F.lt_t hi la (by simp [hl'])
     obtain ⟨ix, hix⟩ := nm (pre.length * 4)
     obtain ⟨v1, hv1⟩ := nm (inR x1 0 m1)
     obtain ⟨v2, hv2⟩ := nm (inR x4 0 m1)
     obtain ⟨v3, hv3⟩ := nm (inR x3 0 5)
     have hpre : pre.length ≤ 12 := by rw [hl'] at hl12'; simp at hl12'; omega
     have hi' : At (add .i64 i 1) (pre ++ [(⟨x1, x2, x3, x4⟩ : Move)]).length := at_len (F.inc hi (by omega)) (by simp)
     have hi2 : add .i64 i 1 = i + 1 := by unfold At at hi hi'; rw [hi', hi]; simp
     have hl2 : l = (pre ++ [⟨x1, x2, x3, x4⟩]) ++ suf := by rw [hl']; simp
     have r1 : at' 4 ea i = some (ix, [.int .i64 x1, .bool x2, .int .i64 x3, .int .i64 x4]) := by rw [hix]; exact F.get hi hea hl' (fun _ => rfl) (by decide)
     have c1 : o 230 [I x1, I 0, I m1] = some ⟨[B v1], [], none⟩ := by rw [ho, hv1]; exact ok230 ..
     have c2 : o 230 [I x4, I 0, I m1] = some ⟨[B v2], [], none⟩ := by rw [ho, hv2]; exact ok230 ..
     have c3 : o 230 [I x3, I 0, I 5] = some ⟨[B v3], [], none⟩ := by rw [ho, hv3]; exact ok230 ..
     have c4 := k1 x1 x2 x3
     have c5 := k2' x1 (!x2)
     obtain ⟨u, hu⟩ := nm (mvOf l x1 x2 x3)
     obtain ⟨v4, hv4⟩ := nm (decide (u < i))
     obtain ⟨v5, hv5⟩ := nm (decide (0 < (mvS l x1 (!x2)).length))
     obtain ⟨em, hem⟩ := nm (row fI (mvS l x1 (!x2)))
     rw [← hu] at c4
     rw [← hem] at c5
     have g4 : lt u i = v4 := by rw [F.lt, hv4]
     have g5 : gt (len em) 0 = v5 := by rw [F.gt, show len em = _ from F.len_at hem, hv5]; simp
     have g6 := gn x2
     obtain ⟨x2', hx2'⟩ := nm (!x2)
     rw [← hx2'] at g6 c5
     unfold spGo at hb
     simp only [inM, ← hm1, ← hv1, ← hv2, ← hv3, ← hu, ← hv4, ← hv5] at hb
     have ih' : ∀ j, spGo st l (i + 1) suf = T → _ := fun j q => ih (suf, pre ++ [⟨x1, x2, x3, x4⟩], add .i64 i 1, j) ⟨hi', hl2, by rw [hi2]; exact q⟩ (by simp)
     obtain ⟨tl, htl⟩ := nm (spGo st l (i + 1) suf)
     rw [← htl] at ih' hb
     clear ih hv1 hv2 hv3 hv4 hv5 hu htl
     rcases j with _ | ⟨j1, j2, j3, j4⟩
     all_goals
      cbv
      rw [gl]; cbv
      rw [r1]; cbv
      rw [hs]; cbv
      rw [c1]; cbv
      rw [gn]
      refine both (fun d1 => ?_) (fun d1 => ?_) <;> rw [d1] <;> cbv
      ·rw [hQ1]; cbv
       rw [hQ]; cbv
       rw [show v1 = false by simpa using d1] at hb
       exact fin _ (by rw [← hb]; rfl)
      rw [show v1 = true by simpa using d1] at hb
      rw [hs]; cbv
      rw [c2]; cbv
      rw [gn]
      refine both (fun d2 => ?_) (fun d2 => ?_) <;> rw [d2] <;> cbv
      ·rw [hQ1]; cbv
       rw [hQ]; cbv
       rw [show v2 = false by simpa using d2] at hb
       exact fin _ (by rw [← hb]; rfl)
      rw [show v2 = true by simpa using d2] at hb
      rw [c3]; cbv
      rw [gn]
      refine both (fun d3 => ?_) (fun d3 => ?_) <;> rw [d3] <;> cbv
      ·rw [hQ1]; cbv
       rw [hQ]; cbv
       rw [show v3 = false by simpa using d3] at hb
       exact fin _ (by rw [← hb]; rfl)
      rw [show v3 = true by simpa using d3] at hb
      rw [c4]; cbv
      rw [g4]
      refine both (fun d4 => ?_) (fun d4 => ?_) <;> rw [d4] <;> cbv
      ·rw [hQ1]; cbv
       rw [hQ]; cbv
       rw [d4] at hb
       exact fin _ (by rw [← hb]; rfl)
      rw [d4] at hb
      rw [g6]; cbv
      rw [c5]; cbv
      rw [g5]
      refine both (fun d5 => ?_) (fun d5 => ?_) <;> rw [d5] <;> cbv
      ·rw [hQ1]; cbv
       rw [hQ]; cbv
       rw [d5] at hb
       exact fin _ (by rw [← hb]; rfl)
      rw [d5] at hb
      exact ih' (some ⟨x1, x2, x3, x4⟩) hb
end Go.Vm
