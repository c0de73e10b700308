/- What the functions answer. -/
import Derived.Test.YthfbmkhjanmeaaaGETab
import Derived.Test.YthfbmkhjanmeaaaGEFA
import Derived.Test.YthfbmkhjanmeaaaGEFB
set_option maxHeartbeats 4000000
set_option maxRecDepth 10000
set_option linter.unusedVariables false
set_option linter.unusedSimpArgs false
namespace Go.Vm
theorem ok158_c (n : Int) (rest : List Int) (hl : rest.length ≤ 1048576) {f0 : Fl} (h0 : inFl f0 = true) (r : Ret) (rF : rdI (n :: rest) = (⟨[], []⟩, false) → (⟨[sHello [] [] .nl .nl, B false], [], none⟩ : Ret) = r) (rT : ∀ h, rdI (n :: rest) = (h, true) → (⟨[sHello (row fI h.versions) (row fExt h.exts) (.ow false) (.ow false), B true], [], none⟩ : Ret) = r) : fix Tb md 158 [R (row fI (n :: rest)) f0] = some r := by
 obtain ⟨b1, hb1⟩ := nm (inNine n rest)
 obtain ⟨k, hk⟩ := nm (n.toNat)
 have hG : rdI (n :: rest) = if b1 = true then rdK (rest.take k) (decQ (rest.drop k)) else (⟨[], []⟩, false) := by rw [hb1, hk]; rfl
 rw [hG] at rF rT
 clear hG
 have hin : b1 = true → 1 ≤ n ∧ n = (k : Int) ∧ k ≤ rest.length := by
  intro h
  rw [hb1] at h
  unfold inNine at h
  rw [inR_iff] at h
  omega
 obtain ⟨W, hW⟩ := nm (rest.take k)
 obtain ⟨D, hD⟩ := nm (decQ (rest.drop k))
 have hwl : W.length ≤ 1048576 := by rw [hW]; simp; omega
 have hml : D.1.length ≤ 1048576 ∧ ∀ y ∈ D.1, y.body.length ≤ 1048576 := by rw [hD]; exact decQ_mid (by simp; omega)
 rw [← hW, ← hD] at rF rT
 obtain ⟨ea, hea⟩ := nm (row fI (n :: rest))
 rw [← hea]
 have cD : (D = ([], false) ∧ fix Tb md 298 [R (row fI (rest.drop k)) (.sp 0 0)] = some ⟨[R [] .nl, B false], [], none⟩) ∨ (D.2 = true ∧ fix Tb md 298 [R (row fI (rest.drop k)) (.sp 0 0)] = some ⟨[R (row fExt D.1) (.ow false), B true], [], none⟩) := by
  have h5 := ok298 (rest.drop k) (by simp; omega) (f0 := .sp 0 0) rfl
  rcases decQ_cases (rest.drop k) with ⟨es, h6⟩ | h6
  ·refine .inr ⟨by rw [hD, h6], ?_⟩
   refine h5 _ (fun h7 => by rw [h6] at h7; cases h7) (fun es' h7 => ?_)
   rw [hD, h7]
  ·refine .inl ⟨by rw [hD, h6], h5 _ (fun _ => rfl) (fun es' h7 => by rw [h6] at h7; cases h7)⟩
 obtain ⟨ex, hex⟩ := nm (row fExt D.1)
 obtain ⟨ev, hev⟩ := nm (row fI W)
 obtain ⟨eb, heb⟩ := nm (row fI (rest.drop k))
 obtain ⟨u, hu⟩ := nm (isHel ⟨W, D.1⟩)
 have rF1 : b1 = false → (⟨[sHello [] [] .nl .nl, B false], [], none⟩ : Ret) = r := fun h => rF (by rw [h]; rfl)
 have rF2 : b1 = true → D.2 = false → (⟨[sHello [] [] .nl .nl, B false], [], none⟩ : Ret) = r := fun h h2 => rF (by rw [h, if_pos rfl, rdK, h2]; rfl)
 have rF3 : b1 = true → u = false → (⟨[sHello [] [] .nl .nl, B false], [], none⟩ : Ret) = r := fun h h3 => rF (by rw [h, if_pos rfl, rdK, ← hu, h3]; simp)
 have rT1 : b1 = true → D.2 = true → u = true → (⟨[sHello ev ex (.ow false) (.ow false), B true], [], none⟩ : Ret) = r := fun h h2 h3 => by
  rw [hev, hex]; exact rT ⟨W, D.1⟩ (by rw [h, if_pos rfl, rdK, ← hu, h2, h3]; rfl)
 clear rF rT
 rw [← hex, ← heb] at cD
 refine fix_fn2 (fn := ir158) tb_158 rfl rfl (by decide) rfl ?_; intro Q hQ; simp only [shutArgs, shutS, List.map_cons, List.map_nil, ir158, shut_in h0, List.head?_nil, reduceCtorEq, if_false, sExt, sHello, sAnswer, sEdit, sDeal, sBox, sDialed, sKnown]
 intro add sub mul arith eq ne lt le gt ge neg conv mn mx not beq len at' ln bd cut app allS isNil mks set o hP F ho
 have la := F.len_at hea
 have g0 : eq (len ea) 0 = false := by rw [F.eq_n la (k := 0) (m := 0) rfl]; simp
 obtain ⟨ix0, hix0⟩ := nm (([] : List Int).length * 1)
 have p00 : at' 1 ea 0 = some (ix0, [.int .i64 n]) := by rw [hix0]; exact F.get (pre := []) (i := 0) (show At 0 0 from rfl) hea rfl (fun _ => rfl) (by decide)
 have hs : mn 9 (sub .i64 (len ea) 1) = min 9 (rest.length : Int) := by
  unfold At at la
  rw [F.mn, F.sub, la, wrap64 (by simp only [List.length_cons, Int.natCast_add]; omega) (by simp only [List.length_cons, Int.natCast_add]; omega)]; simp only [List.length_cons, Int.natCast_add]; split <;> omega
 have c1 : o 232 [I n, I 1, I (mn 9 (sub .i64 (len ea) 1))] = some ⟨[B b1], [], none⟩ := by rw [ho, hs, hb1]; exact ok232 ..
 obtain ⟨h, hh⟩ := nm (1 + k)
 have hq : b1 = true → bd (ln ea) (add .i64 1 n) = some h := fun hb => by
  obtain ⟨h1, h2, h3⟩ := hin hb
  rw [F.ln' hea]; refine F.bd' ?_ (by rw [hh]; simp; omega)
  unfold At; rw [F.add, wrap64 (by omega) (by omega), hh, h2]; omega
 have q2 : cut 1 ea (ln ea) h = some eb := by rw [F.ln' hea, F.cut' hea (fun _ => rfl), heb, hh, cut_tail]
 obtain ⟨one, hone⟩ := nm (1)
 have q3 : bd h 1 = some one := by rw [hone]; exact F.bd' (show At 1 1 from rfl) (by omega)
 have q4 : cut 1 ea h one = some ev := by rw [F.cut' hea (fun _ => rfl), hev, hh, hone, cut_head, hW]
 have c2 : o 299 [R ev (.sp 0 0)] = some ⟨[R ev (.ow false)], [], none⟩ := by rw [ho, hev]; exact ok299 _ (by omega) rfl
 have c4 : o 113 [sHello ev ex (.sp 0 0) (.sp 0 1)] = some ⟨[B u], [], none⟩ := by rw [ho, hu, hev, hex]; exact ok113 ⟨W, D.1⟩ (by simp only; omega) (by simp only; omega) (fun y hy => Nat.le_trans (hml.2 y hy) (by decide)) rfl rfl
 cbv
 rw [g0]; cbv
 rw [p00]; cbv
 rw [c1]; cbv
 refine both (fun d => ?_) (fun d => ?_) <;> rw [d] <;> cbv
 ·rw [hQ]; cbv
  exact congrArg some (rF1 (F.not_t d))
 have hb := F.not_f d
 have q1 := hq hb
 rw [p00]; cbv
 rw [q1]; cbv
 rw [q2]; cbv
 have nt : not false = true := by rw [F.not]; rfl
 have nf : not true = false := by rw [F.not]; rfl
 rcases cD with ⟨k1, k2⟩ | ⟨k1, k2⟩
 ·have c3 : o 298 [R eb (.sp 0 0)] = some ⟨[R [] .nl, B false], [], none⟩ := by rw [ho]; exact k2
  rw [c3]; cbv
  rw [p00]; cbv
  rw [q1]; cbv
  rw [q3]; cbv
  rw [q4]; cbv
  rw [c2]; cbv
  rw [nt]; cbv
  rw [hQ]; cbv
  exact congrArg some (rF2 hb (by rw [k1]))
 ·have c3 : o 298 [R eb (.sp 0 0)] = some ⟨[R ex (.ow false), B true], [], none⟩ := by rw [ho]; exact k2
  rw [c3]; cbv
  rw [p00]; cbv
  rw [q1]; cbv
  rw [q3]; cbv
  rw [q4]; cbv
  rw [c2]; cbv
  rw [nf]; cbv
  rw [c4]; cbv
  refine both (fun d3 => ?_) (fun d3 => ?_) <;> rw [d3] <;> cbv
  ·rw [hQ]; cbv
   exact congrArg some (rF3 hb (F.not_t d3))
  ·rw [hQ]; cbv
   exact congrArg some (rT1 hb k1 (F.not_f d3))
theorem ok158 (l : List Int) (hl : l.length ≤ 1048576) {f0 : Fl} (h0 : inFl f0 = true) :
  fix Tb md 158 [R (row fI l) f0] = some ⟨[sHello (row fI (rdV l).versions) (row fExt (rdV l).exts) (.ow false) (.ow false), B (rdOk l)], [], none⟩ ∨
  ((rdV l).versions = [] ∧ (rdV l).exts = [] ∧ fix Tb md 158 [R (row fI l) f0] = some ⟨[sHello [] [] .nl .nl, B (rdOk l)], [], none⟩) := by
 unfold rdV rdOk
 cases l with
 | cons n rest =>
  rcases rdG_cases (n :: rest) with ⟨h, hg⟩ | hg
  ·rw [hg]
   rw [rdG_I] at hg
   exact .inl (ok158_c n rest (by simp at hl; omega) h0 _ (fun h2 => by rw [hg] at h2; cases h2) (fun h2 h3 => by rw [hg] at h3; cases h3; rfl))
  ·rw [hg]
   rw [rdG_I] at hg
   exact .inr ⟨rfl, rfl, ok158_c n rest (by simp at hl; omega) h0 _ (fun _ => rfl) (fun h2 h3 => by rw [hg] at h3; cases h3)⟩
 | nil =>
  refine .inr ⟨rfl, rfl, ?_⟩
  show fix Tb md 158 [R [] f0] = some ⟨[sHello [] [] .nl .nl, B false], [], none⟩
  generalize hr : (⟨_, [], none⟩ : Ret) = r
  refine fix_fn2 (fn := ir158) tb_158 rfl rfl (by decide) rfl ?_; intro Q hQ; simp only [shutArgs, shutS, List.map_cons, List.map_nil, ir158, shut_in h0, List.head?_nil, reduceCtorEq, if_false, sExt, sHello, sAnswer, sEdit, sDeal, sBox, sDialed, sKnown]
  intro add sub mul arith eq ne lt le gt ge neg conv mn mx not beq len at' ln bd cut app allS isNil mks set o hP F ho
  have g0 : eq (len []) 0 = true := by rw [F.eq, F.len]; rfl
  cbv
  rw [g0]; cbv
  rw [hQ]; cbv
  exact congrArg some hr
theorem ok285 (l : List Int) (n : Int) (hl : l.length ≤ 1099511627776) {f0 : Fl} (h0 : inFl f0 = true) : fix Tb md 285 [R (row fI l) f0, I n] = some ⟨[B (hasI l n)], [], none⟩ := by
 obtain ⟨T, hT⟩ := nm (hasI l n)
 rw [← hT]
 generalize hr : (⟨_, [], none⟩ : Ret) = r
 obtain ⟨ea, hea⟩ := nm (row fI l)
 rw [← hea]
 refine fix_fn2 (fn := ir285) tb_285 rfl rfl (by decide) rfl ?_; intro Q hQ; simp only [shutArgs, shutS, List.map_cons, List.map_nil, ir285, shut_in h0, List.head?_nil, reduceCtorEq, if_false, sExt, sHello, sAnswer, sEdit, sDeal, sBox, sDialed, sKnown]
 intro add sub mul arith eq ne lt le gt ge neg conv mn mx not beq len at' ln bd cut app allS isNil mks set o hP F ho
 have la := F.len_at hea
 cbv
 refine loop_ind2 hP (σ := List Int × List Int × Int) (fun s => [(0, R ea .sh), (1, I n), (4, B false), (5, I s.2.2)]) (fun s => At s.2.2 s.2.1.length ∧ l = s.2.1 ++ s.1 ∧ hasI s.1 n = T) (fun s => s.1.length) (l, [], 0) rfl ⟨rfl, rfl, hT.symm⟩ ?_
 intro c1 Q1 hc1 hQ1
 rintro ⟨suf, pre, i⟩ ⟨hi, hl', hb⟩ ih
 simp only at hi hl' hb ih
 cbv
 cases suf with
 | nil =>
  rw [F.lt_f hi la (by simp [hl'])]; cbv
  rw [hQ1]; cbv
  rw [hQ]; cbv
  rw [← hr, ← hb]; rfl
 | cons x suf =>
  obtain ⟨v, hv⟩ := nm (decide (x = n))
  have hT' : T = (v || hasI suf n) := by rw [← hb, hv]; rfl
  obtain ⟨ix, hix⟩ := nm (pre.length * 1)
  rw [F.lt_t hi la (by simp [hl'])]; cbv
  rw [show at' 1 ea i = some (ix, [.int .i64 x]) by rw [hix]; exact F.get hi hea hl' (fun _ => rfl) (by decide)]; cbv
  rw [show eq x n = v by rw [F.eq, hv]]; cbv
  refine both (fun d => ?_) (fun d => ?_) <;> rw [d] <;> cbv
  ·rw [hQ1]; cbv
   rw [hQ]; cbv
   rw [← hr, hT', d]; rfl
  ·refine ih (suf, pre ++ [x], add .i64 i 1) ⟨at_len (F.inc hi (by simp [hl'] at hl; omega)) (by simp), by simp [hl'], ?_⟩ (by simp)
   rw [hT', d]; rfl
def bodyOk (l : List Ext) (e : Ext) : Bool := match l.find? (tagP e.tag) with | none => false | some d => decide (d.body = e.body)
def isPart (x h : Hello) : Bool := x.versions.all (hasI h.versions) && x.exts.all (bodyOk h.exts)
theorem ixOf_find {α : Type} (p : α → Bool) : ∀ (l : List α) (i : Int), (l.find? p = none ∧ ixOf p l i = -1) ∨ ∃ (pre : List α) (d : α) (suf : List α), l = pre ++ d :: suf ∧ ixOf p l i = i + (pre.length : Int) ∧ l.find? p = some d
 | [], i => .inl ⟨rfl, rfl⟩
 | x :: l, i => by
  by_cases hx : p x = true
  ·exact .inr ⟨[], x, l, rfl, by unfold ixOf; rw [if_pos hx]; simp, by rw [List.find?_cons, hx]⟩
  ·have hx' : p x = false := by simpa using hx
   rcases ixOf_find p l (i + 1) with ⟨h1, h2⟩ | ⟨pre, d, suf, h1, h2, h3⟩
   ·exact .inl ⟨by rw [List.find?_cons, hx']; exact h1, by unfold ixOf; rw [if_neg hx]; exact h2⟩
   ·exact .inr ⟨x :: pre, d, suf, by rw [h1]; rfl, by unfold ixOf; rw [if_neg hx, h2]; simp; omega, by rw [List.find?_cons, hx']; exact h3⟩
theorem extOf_find (l : List Ext) (t : Int) : (l.find? (tagP t) = none ∧ extOf l t = -1) ∨ ∃ (pre : List Ext) (d : Ext) (suf : List Ext), l = pre ++ d :: suf ∧ At (extOf l t) pre.length ∧ 0 ≤ extOf l t ∧ l.find? (tagP t) = some d := by
 rcases ixOf_find (tagP t) l 0 with ⟨h1, h2⟩ | ⟨pre, d, suf, h1, h2, h3⟩
 ·exact .inl ⟨h1, h2⟩
 ·refine .inr ⟨pre, d, suf, h1, ?_, ?_, h3⟩
  ·unfold At; unfold extOf; rw [h2]; simp
  ·unfold extOf; rw [h2]; omega
def notIn (b : List Int) (x : Int) : Bool := !hasI b x
theorem ok287 (l b : List Int) (hl : l.length ≤ 1073741824) (hb' : b.length ≤ 1073741824) {f0 f1 : Fl} (h0 : inFl f0 = true) (h1 : inFl f1 = true) : fix Tb md 287 [R (row fI l) f0, R (row fI b) f1] = some ⟨[R (row fI (sel (notIn b) idI l)) (.ow false)], [], none⟩ := by
 obtain ⟨et, het⟩ := nm (row fI (sel (notIn b) idI l))
 rw [← het]
 generalize hr : (⟨_, [], none⟩ : Ret) = r
 obtain ⟨ea, hea⟩ := nm (row fI l)
 obtain ⟨eb, heb⟩ := nm (row fI b)
 rw [← hea, ← heb]
 refine fix_fn2 (fn := ir287) tb_287 rfl rfl (by decide) rfl ?_; intro Q hQ; simp only [shutArgs, shutS, List.map_cons, List.map_nil, ir287, shut_in h0, shut_in h1, List.head?_nil, reduceCtorEq, if_false, sExt, sHello, sAnswer, sEdit, sDeal, sBox, sDialed, sKnown]
 intro add sub mul arith eq ne lt le gt ge neg conv mn mx not beq len at' ln bd cut app allS isNil mks set o hP F ho
 have la := F.len_at hea
 cbv
 refine loop_ind2 hP (σ := List Int × List Int × List (List V) × Int × Option (Int)) (fun s => match s.2.2.2.2 with | none => [(0, R ea .sh), (1, R eb .sh), (4, R [] .nl), (5, R s.2.2.1 (.ow false)), (9, R ea .sh), (10, I (len ea)), (11, I s.2.2.2.1)] | some j => [(0, R ea .sh), (1, R eb .sh), (4, R [] .nl), (5, R s.2.2.1 (.ow false)), (7, I j), (9, R ea .sh), (10, I (len ea)), (11, I s.2.2.2.1)]) (fun s => At s.2.2.2.1 s.2.1.length ∧ l = s.2.1 ++ s.1 ∧ s.2.2.1 = row fI (sel (notIn b) idI s.2.1)) (fun s => s.1.length) (l, [], [], 0, none) rfl ⟨rfl, rfl, rfl⟩ ?_
 intro c1 Q1 hc1 hQ1
 rintro ⟨suf, pre, eo, i, j⟩ ⟨hi, hl', hb⟩ ih
 simp only at hi hl' hb ih
 rcases j with _ | _
 all_goals
  cbv
  cases suf with
  | nil =>
   rw [F.lt_f hi la (by simp [hl'])]; cbv
   rw [hQ1]; cbv
   rw [hQ]; cbv
   rw [← hr, het, hb, hl', List.append_nil]
  | cons x suf =>
   obtain ⟨ix, hix⟩ := nm (pre.length * 1)
   have hpre : pre.length ≤ 1073741824 := by rw [hl'] at hl; simp at hl; omega
   have hs : (sel (notIn b) idI pre).length ≤ pre.length := sel_len
   have hi' : At (add .i64 i 1) (pre ++ [x]).length := at_len (F.inc hi (by omega)) (by simp)
   have hl2 : l = (pre ++ [x]) ++ suf := by rw [hl']; simp
   have hmem : x ∈ l := by rw [hl']; simp
   have p0 : at' 1 ea i = some (ix, [.int .i64 x]) := by rw [hix]; exact F.get hi hea hl' (fun _ => rfl) (by decide)
   obtain ⟨v, hv⟩ := nm (hasI b x)
   have hP : notIn b x = !v := by rw [hv]; rfl
   have c2 : o 302 [R eb (.sp 0 0), I x] = some ⟨[B v], [], none⟩ := by rw [ho, hv, heb]; exact ok302 _ _ (by omega) rfl
   rw [F.lt_t hi la (by simp [hl'])]; cbv
   rw [p0]; cbv
   rw [c2]; cbv
   refine both (fun d => ?_) (fun d => ?_) <;> rw [d] <;> cbv
   ·rw [show allS [[.int .i64 x]] = true by rw [F.allS]; rfl]; cbv
    obtain ⟨eo', heo'⟩ := nm (row fI (sel (notIn b) idI pre ++ [idI x]))
    rw [show app 1 eo [[.int .i64 x]] = some eo' by rw [heo']; exact F.push hb (fun _ => rfl) rfl (by omega)]; cbv
    refine ih (suf, pre ++ [x], eo', add .i64 i 1, some x) ⟨hi', hl2, by simp only; rw [heo', sel_t (by rw [hP, F.not_t d]; rfl)]⟩ (by simp)
   ·refine ih (suf, pre ++ [x], eo, add .i64 i 1, some x) ⟨hi', hl2, by simp only; rw [hb, sel_f (by rw [hP, F.not_f d]; rfl)]⟩ (by simp)
theorem ok288_0 (g : Nat) (hg : md g = []) (p : Ext → Bool) (l : List Ext) (hl : l.length ≤ 1099511627776) (hp : ∀ x ∈ l, fix Tb md g [sExt x.tag (row fI x.body) (.sp 0 1)] = some ⟨[B (p x)], [], none⟩) {f0 : Fl} (h0 : inFl f0 = true) :
  fix Tb md 288 [R (row fExt l) f0, ⟨.val, [⟨.fn g [], .sh⟩]⟩] = some ⟨[B (l.any p)], [], none⟩ := by
 refine fix_fn (fn := ir288) tb_288 rfl rfl (by decide) rfl ?_; simp only [shutArgs, shutS, List.map_cons, List.map_nil, ir288, shut_in h0, List.head?_nil, reduceCtorEq, if_false, sExt, sHello, sAnswer, sEdit, sDeal, sBox, sDialed, sKnown]
 generalize hr : (⟨_, [], none⟩ : Ret) = r
 obtain ⟨ea, hea⟩ := nm (row fExt l)
 rw [← hea]
 obtain ⟨v, hv⟩ := nm (ixOf p l 0)
 have hv2 : decide (0 ≤ v) = l.any p := by rw [hv]; exact ixOf_ge p l 0 (by decide)
 rw [← hv2] at hr
 clear hv2
 intro add sub mul arith eq ne lt le gt ge neg conv mn mx not beq len at' ln bd cut app allS isNil mks set o hP F ho
 have c1 : o 351 [R ea (.sp 0 0), ⟨.val, [⟨.fn g [], .sh⟩]⟩] = some ⟨[I v], [], none⟩ := by rw [ho, hv, hea]; exact ok351_0 g hg p l hl hp rfl
 cbv
 rw [c1]; cbv
 rw [← hr, F.ge]
theorem ok288_1 (g : Nat) (hg : md g = []) (k0 : V) (p : Ext → Bool) (l : List Ext) (hl : l.length ≤ 1099511627776) (hp : ∀ x ∈ l, fix Tb md g [sExt x.tag (row fI x.body) (.sp 0 1), ⟨.val, [⟨k0, .sh⟩]⟩] = some ⟨[B (p x)], [], none⟩) {f0 : Fl} (h0 : inFl f0 = true) :
  fix Tb md 288 [R (row fExt l) f0, ⟨.val, [⟨.fn g [k0], .sh⟩]⟩] = some ⟨[B (l.any p)], [], none⟩ := by
 refine fix_fn (fn := ir288) tb_288 rfl rfl (by decide) rfl ?_; simp only [shutArgs, shutS, List.map_cons, List.map_nil, ir288, shut_in h0, List.head?_nil, reduceCtorEq, if_false, sExt, sHello, sAnswer, sEdit, sDeal, sBox, sDialed, sKnown]
 generalize hr : (⟨_, [], none⟩ : Ret) = r
 obtain ⟨ea, hea⟩ := nm (row fExt l)
 rw [← hea]
 obtain ⟨v, hv⟩ := nm (ixOf p l 0)
 have hv2 : decide (0 ≤ v) = l.any p := by rw [hv]; exact ixOf_ge p l 0 (by decide)
 rw [← hv2] at hr
 clear hv2
 intro add sub mul arith eq ne lt le gt ge neg conv mn mx not beq len at' ln bd cut app allS isNil mks set o hP F ho
 have c1 : o 351 [R ea (.sp 0 0), ⟨.val, [⟨.fn g [k0], .sh⟩]⟩] = some ⟨[I v], [], none⟩ := by rw [ho, hv, hea]; exact ok351_1 g hg k0 p l hl hp rfl
 cbv
 rw [c1]; cbv
 rw [← hr, F.ge]
theorem ok288_2 (g : Nat) (hg : md g = []) (k0 k1 : V) (p : Ext → Bool) (l : List Ext) (hl : l.length ≤ 1099511627776) (hp : ∀ x ∈ l, fix Tb md g [sExt x.tag (row fI x.body) (.sp 0 1), ⟨.val, [⟨k0, .sh⟩]⟩, ⟨.val, [⟨k1, .sh⟩]⟩] = some ⟨[B (p x)], [], none⟩) {f0 : Fl} (h0 : inFl f0 = true) :
  fix Tb md 288 [R (row fExt l) f0, ⟨.val, [⟨.fn g [k0, k1], .sh⟩]⟩] = some ⟨[B (l.any p)], [], none⟩ := by
 refine fix_fn (fn := ir288) tb_288 rfl rfl (by decide) rfl ?_; simp only [shutArgs, shutS, List.map_cons, List.map_nil, ir288, shut_in h0, List.head?_nil, reduceCtorEq, if_false, sExt, sHello, sAnswer, sEdit, sDeal, sBox, sDialed, sKnown]
 generalize hr : (⟨_, [], none⟩ : Ret) = r
 obtain ⟨ea, hea⟩ := nm (row fExt l)
 rw [← hea]
 obtain ⟨v, hv⟩ := nm (ixOf p l 0)
 have hv2 : decide (0 ≤ v) = l.any p := by rw [hv]; exact ixOf_ge p l 0 (by decide)
 rw [← hv2] at hr
 clear hv2
 intro add sub mul arith eq ne lt le gt ge neg conv mn mx not beq len at' ln bd cut app allS isNil mks set o hP F ho
 have c1 : o 351 [R ea (.sp 0 0), ⟨.val, [⟨.fn g [k0, k1], .sh⟩]⟩] = some ⟨[I v], [], none⟩ := by rw [ho, hv, hea]; exact ok351_2 g hg k0 k1 p l hl hp rfl
 cbv
 rw [c1]; cbv
 rw [← hr, F.ge]
theorem ok289 (y : Ext) (h : Hello) (hl2 : h.exts.length ≤ 1099511627776) (w2 : ∀ y ∈ h.exts, y.body.length ≤ 1099511627776) {f0 : Fl} (h0 : inFl f0 = true) : fix Tb md 289 [sExt y.tag (row fI y.body) f0, ⟨.val, [⟨.ptr () [.row () (row fI h.versions), .row () (row fExt h.exts)], .sh⟩]⟩] = some ⟨[B (!bodyOk h.exts y)], [], none⟩ := by
 obtain ⟨u, hu⟩ := nm (bodyOk h.exts y)
 generalize hr : (⟨_, [], none⟩ : Ret) = r
 obtain ⟨e1, he1⟩ := nm (row fI y.body)
 obtain ⟨dv, hdv⟩ := nm (row fI h.versions)
 obtain ⟨dx, hdx⟩ := nm (row fExt h.exts)
 rw [← he1, ← hdv, ← hdx]
 obtain ⟨v, hvv⟩ := nm (extOf h.exts y.tag)
 rcases extOf_find h.exts y.tag with ⟨n1, n2⟩ | ⟨p', d, s', n1, n2, n3, n4⟩
 ·refine fix_fn2 (fn := ir289) tb_289 rfl rfl (by decide) rfl ?_; intro Q hQ; simp only [shutArgs, shutS, List.map_cons, List.map_nil, ir289, shut_in h0, List.head?_nil, reduceCtorEq, if_false, sExt, sHello, sAnswer, sEdit, sDeal, sBox, sDialed, sKnown]
  intro add sub mul arith eq ne lt le gt ge neg conv mn mx not beq len at' ln bd cut app allS isNil mks set o hP F ho
  have hu' : u = false := by rw [hu, bodyOk, n1]
  have c3 : o 290 [R dx (.sp 0 0), I y.tag] = some ⟨[I v], [], none⟩ := by rw [ho, hvv, hdx]; exact ok290 _ _ hl2 rfl
  have g1 : lt v 0 = true := by rw [F.lt, hvv, n2]; rfl
  cbv
  rw [c3]; cbv
  rw [g1]; cbv
  rw [hQ]; cbv
  rw [← hr, ← hu, hu']; rfl
 ·obtain ⟨e2, he2⟩ := nm (row fI d.body)
  obtain ⟨iy, hiy⟩ := nm (p'.length * 2)
  refine fix_fn2 (fn := ir289) tb_289 rfl rfl (by decide) rfl ?_; intro Q hQ; simp only [shutArgs, shutS, List.map_cons, List.map_nil, ir289, shut_in h0, List.head?_nil, reduceCtorEq, if_false, sExt, sHello, sAnswer, sEdit, sDeal, sBox, sDialed, sKnown]
  intro add sub mul arith eq ne lt le gt ge neg conv mn mx not beq len at' ln bd cut app allS isNil mks set o hP F ho
  have c3 : o 290 [R dx (.sp 0 0), I y.tag] = some ⟨[I v], [], none⟩ := by rw [ho, hvv, hdx]; exact ok290 _ _ hl2 rfl
  have g1 : lt v 0 = false := by rw [F.lt, hvv]; simp; exact n3
  rw [← hvv] at n2
  have p1 : at' 2 dx v = some (iy, [.int .i64 d.tag, .row () e2]) := by rw [hiy, he2]; exact F.get n2 hdx n1 (fun _ => rfl) (by decide)
  have hu' : decide (d = y) = u := by
   rw [hu, bodyOk, n4]
   have ht : d.tag = y.tag := by have := List.find?_some n4; simpa [tagP] using this
   simp [Ext.eq_iff, ht]
  have c4 : o 291 [sExt d.tag e2 (.sp 0 1), sExt y.tag e1 (.sp 1 1)] = some ⟨[B u], [], none⟩ := by rw [ho, ← hu', he1, he2]; exact ok291 _ _ (w2 d (by rw [n1]; simp)) rfl rfl
  cbv
  rw [c3]; cbv
  rw [g1]; cbv
  rw [p1]; cbv
  rw [c4]; cbv
  rw [hQ]; cbv
  rw [← hr, F.not, ← hu]
theorem notIn_nil (a b : List Int) : decide ((sel (notIn b) idI a).length = 0) = a.all (hasI b) := by
 rw [sel_idI]
 induction a with
 | nil => rfl
 | cons x a ih =>
  rw [List.filter_cons, List.all_cons, notIn]
  cases h : hasI b x with
  | true => simpa using ih
  | false => simp
theorem ok148 (x h : Hello) (hvx : x.versions.length ≤ 1073741824) (hv2 : h.versions.length ≤ 1073741824) (hl : x.exts.length ≤ 1099511627776) (hl2 : h.exts.length ≤ 1099511627776) (w : ∀ y ∈ x.exts, y.body.length ≤ 1099511627776) (w2 : ∀ y ∈ h.exts, y.body.length ≤ 1099511627776) {f0 f1 f2 f3 : Fl} (q0 : inFl f0 = true) (q1 : inFl f1 = true) (q2 : inFl f2 = true) (q3 : inFl f3 = true) : fix Tb md 148 [sHello (row fI x.versions) (row fExt x.exts) f0 f1, sHello (row fI h.versions) (row fExt h.exts) f2 f3] = some ⟨[B (isPart x h)], [], none⟩ := by
 obtain ⟨T1, hT1⟩ := nm (x.versions.all (hasI h.versions))
 obtain ⟨T3, hT3⟩ := nm (x.exts.any fun y => !bodyOk h.exts y)
 have e : isPart x h = (T1 && !T3) := by rw [hT1, hT3, isPart, List.all_eq_not_any_not (l := x.exts)]
 rw [e]
 generalize hr : (⟨_, [], none⟩ : Ret) = r
 obtain ⟨ev, hev⟩ := nm (row fI x.versions)
 obtain ⟨ex, hex⟩ := nm (row fExt x.exts)
 obtain ⟨dv, hdv⟩ := nm (row fI h.versions)
 obtain ⟨dx, hdx⟩ := nm (row fExt h.exts)
 rw [← hev, ← hex, ← hdv, ← hdx]
 obtain ⟨ew, hew⟩ := nm (row fI (sel (notIn h.versions) idI x.versions))
 refine fix_fn2 (fn := ir148) tb_148 rfl rfl (by decide) rfl ?_; intro Q hQ; simp only [shutArgs, shutS, List.map_cons, List.map_nil, ir148, shut_in q0, shut_in q1, shut_in q2, shut_in q3, List.head?_nil, reduceCtorEq, if_false, sExt, sHello, sAnswer, sEdit, sDeal, sBox, sDialed, sKnown]
 intro add sub mul arith eq ne lt le gt ge neg conv mn mx not beq len at' ln bd cut app allS isNil mks set o hP F ho
 have lw := F.len_at hew
 have c1 : o 287 [R ev (.sp 0 0), R dv (.sp 1 0)] = some ⟨[R ew (.ow false)], [], none⟩ := by rw [ho, hew, hev, hdv]; exact ok287 _ _ hvx hv2 rfl rfl
 have g1 : eq (len ew) 0 = T1 := by rw [F.eq_n lw (k := 0) (m := 0) rfl, hT1]; exact notIn_nil _ _
 have c2 : o 288 [R ex (.sp 0 0), ⟨.val, [⟨.fn 289 [.ptr () [.row () dv, .row () dx]], .sh⟩]⟩] = some ⟨[B T3], [], none⟩ := by
  rw [ho, hT3, hex, hdv, hdx]; exact ok288_1 289 rfl _ (fun y => !bodyOk h.exts y) x.exts hl (fun y _ => ok289 y h hl2 w2 rfl) rfl
 cbv
 rw [c1]; cbv
 rw [g1]; cbv
 refine both (fun d1 => ?_) (fun d1 => ?_) <;> rw [d1] <;> cbv
 ·rw [c2]; cbv
  rw [hQ]; cbv
  rw [← hr, F.not, d1]; rfl
 ·rw [hQ]; cbv
  rw [← hr, d1]; rfl
def gaP (x : Hello) (e : Ext) : Bool := decide (extOf x.exts e.tag < 0) && inR e.tag 0 255
def gaF (e : Ext) : Int := 1000 + e.tag
def givenV (h x : Hello) : List Int := sel (notIn x.versions) idI h.versions ++ sel (gaP x) gaF h.exts
theorem givenV_len (h x : Hello) : (givenV h x).length ≤ h.versions.length + h.exts.length := by
 unfold givenV
 have h1 : (sel (notIn x.versions) idI h.versions).length ≤ h.versions.length := sel_len
 have h2 : (sel (gaP x) gaF h.exts).length ≤ h.exts.length := sel_len
 rw [List.length_append]; omega
def yesE (_ : Ext) : Bool := true
theorem ok179 (l : List Ext) (hl : l.length ≤ 1073741824) {f0 : Fl} (h0 : inFl f0 = true) : fix Tb md 179 [R (row fExt l) f0] = some ⟨[R (row fI (sel yesE Ext.tag l)) (.ow false)], [], none⟩ := by
 obtain ⟨et, het⟩ := nm (row fI (sel yesE Ext.tag l))
 rw [← het]
 generalize hr : (⟨_, [], none⟩ : Ret) = r
 obtain ⟨ea, hea⟩ := nm (row fExt l)
 rw [← hea]
 refine fix_fn2 (fn := ir179) tb_179 rfl rfl (by decide) rfl ?_; intro Q hQ; simp only [shutArgs, shutS, List.map_cons, List.map_nil, ir179, shut_in h0, List.head?_nil, reduceCtorEq, if_false, sExt, sHello, sAnswer, sEdit, sDeal, sBox, sDialed, sKnown]
 intro add sub mul arith eq ne lt le gt ge neg conv mn mx not beq len at' ln bd cut app allS isNil mks set o hP F ho
 have la := F.len_at hea
 cbv
 refine loop_ind2 hP (σ := List Ext × List Ext × List (List V) × Int × Option (Int × List (List V))) (fun s => match s.2.2.2.2 with | none => [(0, R ea .sh), (2, R [] .nl), (3, R s.2.2.1 (.ow false)), (7, R ea .sh), (8, I (len ea)), (9, I s.2.2.2.1)] | some j => [(0, R ea .sh), (2, R [] .nl), (3, R s.2.2.1 (.ow false)), (5, ⟨.ptr 25 0, []⟩), (7, R ea .sh), (8, I (len ea)), (9, I s.2.2.2.1), (25, ⟨.box (), [⟨.int .i64 j.1, .sc⟩, ⟨.row () j.2, .sh⟩]⟩)]) (fun s => At s.2.2.2.1 s.2.1.length ∧ l = s.2.1 ++ s.1 ∧ s.2.2.1 = row fI (sel yesE Ext.tag s.2.1)) (fun s => s.1.length) (l, [], [], 0, none) rfl ⟨rfl, rfl, rfl⟩ ?_
 intro c1 Q1 hc1 hQ1
 rintro ⟨suf, pre, eo, i, j⟩ ⟨hi, hl', hb⟩ ih
 simp only at hi hl' hb ih
 rcases j with _ | ⟨j1, j2⟩
 all_goals
  cbv
  cases suf with
  | nil =>
   rw [F.lt_f hi la (by simp [hl'])]; cbv
   rw [hQ1]; cbv
   rw [hQ]; cbv
   rw [← hr, het, hb, hl', List.append_nil]
  | cons x suf =>
   obtain ⟨ix, hix⟩ := nm (pre.length * 2)
   have hpre : pre.length ≤ 1073741824 := by rw [hl'] at hl; simp at hl; omega
   have hs : (sel yesE Ext.tag pre).length ≤ pre.length := sel_len
   have hi' : At (add .i64 i 1) (pre ++ [x]).length := at_len (F.inc hi (by omega)) (by simp)
   have hl2 : l = (pre ++ [x]) ++ suf := by rw [hl']; simp
   have hmem : x ∈ l := by rw [hl']; simp
   obtain ⟨e1, he1⟩ := nm (row fI x.body)
   have p0 : at' 2 ea i = some (ix, [.int .i64 x.tag, .row () e1]) := by rw [hix, he1]; exact F.get hi hea hl' (fun _ => rfl) (by decide)
   rw [F.lt_t hi la (by simp [hl'])]; cbv
   rw [p0]; cbv
   rw [show allS [[.int .i64 x.tag]] = true by rw [F.allS]; rfl]; cbv
   obtain ⟨eo', heo'⟩ := nm (row fI (sel yesE Ext.tag pre ++ [Ext.tag x]))
   rw [show app 1 eo [[.int .i64 x.tag]] = some eo' by rw [heo']; exact F.push hb (fun _ => rfl) rfl (by omega)]; cbv
   refine ih (suf, pre ++ [x], eo', add .i64 i 1, some (x.tag, e1)) ⟨hi', hl2, by simp only; rw [heo', sel_t rfl]⟩ (by simp)
def inB (n : Int) : Bool := inR n 0 255
def thou (n : Int) : Int := 1000 + n
def tags (l : List Ext) : List Int := sel yesE Ext.tag l
theorem tags_map (l : List Ext) : tags l = l.map Ext.tag := by unfold tags sel; rw [show l.filter yesE = l from List.filter_eq_self.2 (fun _ _ => rfl)]
theorem hasI_tags (l : List Ext) (t : Int) : hasI (tags l) t = l.any (tagP t) := by
 rw [tags_map]; unfold hasI; rw [List.any_map]; rfl
theorem extOf_neg (l : List Ext) (t : Int) : decide (extOf l t < 0) = !hasI (tags l) t := by
 have h1 : decide (0 ≤ extOf l t) = l.any (tagP t) := ixOf_ge (tagP t) l 0 (by decide)
 rw [hasI_tags, ← h1]
 by_cases q : extOf l t < 0
 ·simp [q]
 ·simp [q]; omega
theorem givenV_eq (h x : Hello) : givenV h x = sel (notIn x.versions) idI h.versions ++ sel inB thou (sel (notIn (tags x.exts)) idI (tags h.exts)) := by
 unfold givenV
 congr 1
 rw [sel_idI, tags_map h.exts]
 induction h.exts with
 | nil => rfl
 | cons y l ih =>
  rw [show sel (gaP x) gaF (y :: l) = (if gaP x y = true then [gaF y] else []) ++ sel (gaP x) gaF l by unfold sel; rw [List.filter_cons]; split <;> simp, ih]
  rw [List.map_cons, List.filter_cons]
  have hg : gaP x y = (notIn (tags x.exts) y.tag && inB y.tag) := by unfold gaP notIn inB; rw [extOf_neg]
  rw [hg]
  cases h1 : notIn (tags x.exts) y.tag with
  | false => simp
  | true =>
   rw [if_pos rfl]
   unfold sel
   rw [List.filter_cons]
   cases h2 : inB y.tag with
   | false => simp
   | true => simp [gaF, thou]
theorem ok150 (h x : Hello) (a1 : h.versions.length ≤ 1048576) (a2 : x.versions.length ≤ 1048576) (a3 : h.exts.length ≤ 1048576) (a4 : x.exts.length ≤ 1048576) {f0 f1 f2 f3 : Fl} (q0 : inFl f0 = true) (q1 : inFl f1 = true) (q2 : inFl f2 = true) (q3 : inFl f3 = true) : fix Tb md 150 [sHello (row fI h.versions) (row fExt h.exts) f0 f1, sHello (row fI x.versions) (row fExt x.exts) f2 f3] = some ⟨[R (row fI (givenV h x)) (.ow false)], [], none⟩ := by
 obtain ⟨et, het⟩ := nm (row fI (givenV h x))
 rw [← het]
 generalize hr : (⟨_, [], none⟩ : Ret) = r
 obtain ⟨dv, hdv⟩ := nm (row fI h.versions)
 obtain ⟨dx, hdx⟩ := nm (row fExt h.exts)
 obtain ⟨ev, hev⟩ := nm (row fI x.versions)
 obtain ⟨ex, hex⟩ := nm (row fExt x.exts)
 rw [← hdv, ← hdx, ← hev, ← hex]
 obtain ⟨W, hW⟩ := nm (sel (notIn x.versions) idI h.versions)
 obtain ⟨Z, hZ⟩ := nm (sel (notIn (tags x.exts)) idI (tags h.exts))
 obtain ⟨ew, hew⟩ := nm (row fI W)
 obtain ⟨ez, hez⟩ := nm (row fI Z)
 obtain ⟨th, hth⟩ := nm (row fI (tags h.exts))
 obtain ⟨tx, htx⟩ := nm (row fI (tags x.exts))
 have hWl : W.length ≤ 1048576 := by rw [hW]; exact Nat.le_trans sel_len a1
 have htl : (tags h.exts).length ≤ 1048576 := Nat.le_trans sel_len a3
 have htx' : (tags x.exts).length ≤ 1048576 := Nat.le_trans sel_len a4
 have hZl : Z.length ≤ 1048576 := by rw [hZ]; exact Nat.le_trans sel_len htl
 refine fix_fn2 (fn := ir150) tb_150 rfl rfl (by decide) rfl ?_; intro Q hQ; simp only [shutArgs, shutS, List.map_cons, List.map_nil, ir150, shut_in q0, shut_in q1, shut_in q2, shut_in q3, List.head?_nil, reduceCtorEq, if_false, sExt, sHello, sAnswer, sEdit, sDeal, sBox, sDialed, sKnown]
 intro add sub mul arith eq ne lt le gt ge neg conv mn mx not beq len at' ln bd cut app allS isNil mks set o hP F ho
 have lz := F.len_at hez
 have c1 : o 287 [R dv (.sp 0 0), R ev (.sp 1 0)] = some ⟨[R ew (.ow false)], [], none⟩ := by rw [ho, hew, hW, hdv, hev]; exact ok287 _ _ (by omega) (by omega) rfl rfl
 have c2 : o 179 [R dx (.sp 0 0)] = some ⟨[R th (.ow false)], [], none⟩ := by rw [ho, hth, hdx]; exact ok179 _ (by omega) rfl
 have c3 : o 179 [R ex (.sp 0 0)] = some ⟨[R tx (.ow false)], [], none⟩ := by rw [ho, htx, hex]; exact ok179 _ (by omega) rfl
 have c4 : o 287 [R th (.sp 0 0), R tx (.sp 1 0)] = some ⟨[R ez (.ow false)], [], none⟩ := by rw [ho, hez, hZ, hth, htx]; exact ok287 _ _ (by omega) (by omega) rfl rfl
 cbv
 rw [c1]; cbv
 rw [c2]; cbv
 rw [c3]; cbv
 rw [c4]; cbv
 refine loop_ind2 hP (σ := List Int × List Int × List (List V) × Int × Option Int) (fun s => match s.2.2.2.2 with
  | none => [(0, sHello dv dx .sh .sh), (1, sHello ev ex .sh .sh), (2, ⟨.ptr 36 0, []⟩), (3, ⟨.ptr 37 0, []⟩), (4, R [] .nl), (5, R s.2.2.1 (.ow false)), (19, R ez (.ow false)), (20, I (len ez)), (21, I s.2.2.2.1), (36, ⟨.box (), [⟨.row () dv, .sh⟩, ⟨.row () dx, .sh⟩]⟩), (37, ⟨.box (), [⟨.row () ev, .sh⟩, ⟨.row () ex, .sh⟩]⟩)]
  | some j => [(0, sHello dv dx .sh .sh), (1, sHello ev ex .sh .sh), (2, ⟨.ptr 36 0, []⟩), (3, ⟨.ptr 37 0, []⟩), (4, R [] .nl), (5, R s.2.2.1 (.ow false)), (7, I j), (19, R ez (.ow false)), (20, I (len ez)), (21, I s.2.2.2.1), (36, ⟨.box (), [⟨.row () dv, .sh⟩, ⟨.row () dx, .sh⟩]⟩), (37, ⟨.box (), [⟨.row () ev, .sh⟩, ⟨.row () ex, .sh⟩]⟩)]) (fun s => At s.2.2.2.1 s.2.1.length ∧ Z = s.2.1 ++ s.1 ∧ s.2.2.1 = row fI (W ++ sel inB thou s.2.1)) (fun s => s.1.length) (Z, [], ew, 0, none) rfl ⟨rfl, rfl, by rw [hew]; simp [sel]⟩ ?_
 intro c1 Q1 hc1 hQ1
 rintro ⟨suf, pre, eo, i, j⟩ ⟨hi, hl', hb⟩ ih
 simp only at hi hl' hb ih
 rcases j with _ | _
 all_goals
  cbv
  cases suf with
  | nil =>
   rw [F.lt_f hi lz (by simp [hl'])]; cbv
   rw [hQ1]; cbv
   rw [hQ]; cbv
   rw [← hr, het, hb, givenV_eq, ← hZ, hl', List.append_nil, hW]
  | cons y suf =>
   obtain ⟨ix, hix⟩ := nm (pre.length * 1)
   have hpre : pre.length ≤ 1048576 := by rw [hl'] at hZl; simp at hZl; omega
   have hs : (sel inB thou pre).length ≤ pre.length := sel_len
   have hi' : At (add .i64 i 1) (pre ++ [y]).length := at_len (F.inc hi (by omega)) (by simp)
   have hl2 : Z = (pre ++ [y]) ++ suf := by rw [hl']; simp
   have p0 : at' 1 ez i = some (ix, [.int .i64 y]) := by rw [hix]; exact F.get hi hez hl' (fun _ => rfl) (by decide)
   obtain ⟨b2, hb2⟩ := nm (inB y)
   have c5 : o 232 [I y, I 0, I 255] = some ⟨[B b2], [], none⟩ := by rw [ho, hb2]; exact ok232 ..
   obtain ⟨eo', heo'⟩ := nm (row fI (W ++ sel inB thou pre ++ [thou y]))
   have q1 : b2 = true → app 1 eo [[.int .i64 (add .i64 1000 y)]] = some eo' := by
    intro q
    rw [hb2] at q
    simp [inB, inR] at q
    rw [show add .i64 1000 y = thou y by rw [F.add, wrap64 (by omega) (by omega)]; rfl, heo']
    exact F.push hb (fun _ => rfl) rfl (by rw [List.length_append]; omega)
   have q2 : allS [[.int .i64 (add .i64 1000 y)]] = true := by rw [F.allS]; rfl
   rw [F.lt_t hi lz (by simp [hl'])]; cbv
   rw [p0]; cbv
   rw [c5]; cbv
   refine both (fun d2 => ?_) (fun d2 => ?_) <;> rw [d2] <;> cbv
   ·rw [q2]; cbv
    rw [q1 d2]; cbv
    refine ih (suf, pre ++ [y], eo', add .i64 i 1, some y) ⟨hi', hl2, by simp only; rw [heo', sel_t (by rw [← hb2, d2])]; simp⟩ (by simp)
   ·refine ih (suf, pre ++ [y], eo, add .i64 i 1, some y) ⟨hi', hl2, by simp only; rw [hb, sel_f (by rw [← hb2, d2])]⟩ (by simp)
def resv (t : Int) : Bool := inR t 0 255 && decide (Int.tmod t 16 = 10)
def okT (h : Hello) (e : Ext) : Bool := !(decide (extOf h.exts e.tag < 0) || resv e.tag)
def fitsV (h : Hello) (a : Answer) : Bool := a.exts.all (okT h) && isHel h && isAns a.version a.exts && hasI h.versions a.version
theorem ok337 (t : Int) : fix Tb md 337 [I t] = some ⟨[B (resv t)], [], none⟩ := by
 obtain ⟨a, ha⟩ := nm (inR t 0 255)
 obtain ⟨n, hn⟩ := nm (Int.tmod t 16)
 obtain ⟨b, hb⟩ := nm (decide (n = 10))
 rw [show resv t = (a && b) by rw [ha, hb, hn]; rfl]
 generalize hr : (⟨_, [], none⟩ : Ret) = r
 refine fix_fn2 (fn := ir337) tb_337 rfl rfl (by decide) rfl ?_; intro Q hQ; simp only [shutArgs, shutS, List.map_cons, List.map_nil, ir337, List.head?_nil, reduceCtorEq, if_false, sExt, sHello, sAnswer, sEdit, sDeal, sBox, sDialed, sKnown]
 intro add sub mul arith eq ne lt le gt ge neg conv mn mx not beq len at' ln bd cut app allS isNil mks set o hP F ho
 have c1 : o 232 [I t, I 0, I 255] = some ⟨[B a], [], none⟩ := by rw [ho, ha]; exact ok232 ..
 have g1 : arith .rem .i64 t 16 = some (.int .i64 n) := by rw [F.arith, hn]; rfl
 have g2 : eq n 10 = b := by rw [F.eq, hb]
 cbv
 rw [c1]; cbv
 refine both (fun d => ?_) (fun d => ?_) <;> rw [d] <;> cbv
 ·rw [g1]; cbv
  rw [hQ]; cbv
  rw [g2, ← hr, d]; rfl
 ·rw [hQ]; cbv
  rw [← hr, d]; rfl
theorem ok223 (l : List Int) (hl : l.length ≤ 1099511627776) {f0 : Fl} (h0 : inFl f0 = true) : fix Tb md 223 [R (row fI l) f0] = some ⟨[B (l.any resv)], [], none⟩ := by
 obtain ⟨v, hv⟩ := nm (l.any resv)
 rw [← hv]
 generalize hr : (⟨_, [], none⟩ : Ret) = r
 obtain ⟨ea, hea⟩ := nm (row fI l)
 rw [← hea]
 refine fix_fn2 (fn := ir223) tb_223 rfl rfl (by decide) rfl ?_; intro Q hQ; simp only [shutArgs, shutS, List.map_cons, List.map_nil, ir223, shut_in h0, List.head?_nil, reduceCtorEq, if_false, sExt, sHello, sAnswer, sEdit, sDeal, sBox, sDialed, sKnown]
 intro add sub mul arith eq ne lt le gt ge neg conv mn mx not beq len at' ln bd cut app allS isNil mks set o hP F ho
 have c1 : o 336 [R ea (.sp 0 0), ⟨.val, [⟨.fn 337 [], .sh⟩]⟩] = some ⟨[B v], [], none⟩ := by rw [ho, hv, hea]; exact ok336_0 337 rfl resv l hl (fun x _ => ok337 x) rfl
 cbv
 rw [c1]; cbv
 rw [hQ]; cbv
 exact congrArg some hr
theorem ok303 (l : List Ext) (hl : l.length ≤ 1073741824) {f0 : Fl} (h0 : inFl f0 = true) : fix Tb md 303 [R (row fExt l) f0] = some ⟨[B ((tags l).any resv)], [], none⟩ := by
 obtain ⟨v, hv⟩ := nm ((tags l).any resv)
 rw [← hv]
 have ht : (tags l).length ≤ l.length := sel_len
 generalize hr : (⟨_, [], none⟩ : Ret) = r
 obtain ⟨ea, hea⟩ := nm (row fExt l)
 rw [← hea]
 obtain ⟨et, het⟩ := nm (row fI (tags l))
 refine fix_fn2 (fn := ir303) tb_303 rfl rfl (by decide) rfl ?_; intro Q hQ; simp only [shutArgs, shutS, List.map_cons, List.map_nil, ir303, shut_in h0, List.head?_nil, reduceCtorEq, if_false, sExt, sHello, sAnswer, sEdit, sDeal, sBox, sDialed, sKnown]
 intro add sub mul arith eq ne lt le gt ge neg conv mn mx not beq len at' ln bd cut app allS isNil mks set o hP F ho
 have c1 : o 179 [R ea (.sp 0 0)] = some ⟨[R et (.ow false)], [], none⟩ := by rw [ho, het, hea]; exact ok179 _ hl rfl
 have c2 : o 223 [R et (.sp 0 0)] = some ⟨[B v], [], none⟩ := by rw [ho, hv, het]; exact ok223 _ (by omega) rfl
 cbv
 rw [c1]; cbv
 rw [c2]; cbv
 rw [hQ]; cbv
 exact congrArg some hr
theorem fitsV_eq (h : Hello) (a : Answer) : fitsV h a = (isHel h && isAns a.version a.exts && hasI h.versions a.version && decide ((sel (notIn (tags h.exts)) idI (tags a.exts)).length = 0) && !(tags a.exts).any resv) := by
 rw [notIn_nil]
 have e : a.exts.all (okT h) = ((tags a.exts).all (hasI (tags h.exts)) && !(tags a.exts).any resv) := by
  rw [tags_map a.exts]
  induction a.exts with
  | nil => rfl
  | cons y l ih =>
   rw [List.all_cons, ih, List.map_cons, List.all_cons, List.any_cons, okT, extOf_neg]
   cases hasI (tags h.exts) y.tag <;> cases resv y.tag <;> simp
 rw [fitsV, e]
 cases isHel h <;> cases isAns a.version a.exts <;> cases hasI h.versions a.version <;> simp
theorem ok161 (h : Hello) (a : Answer) (mh : h.Mid) (ma : a.Mid) {f0 f1 f2 : Fl} (q0 : inFl f0 = true) (q1 : inFl f1 = true) (q2 : inFl f2 = true) : fix Tb md 161 [sHello (row fI h.versions) (row fExt h.exts) f0 f1, sAnswer a.version (row fExt a.exts) f2] = some ⟨[B (fitsV h a)], [], none⟩ := by
 unfold Hello.Mid at mh
 unfold Answer.Mid at ma
 obtain ⟨u1, hu1⟩ := nm (isHel h)
 obtain ⟨u2, hu2⟩ := nm (isAns a.version a.exts)
 obtain ⟨u3, hu3⟩ := nm (hasI h.versions a.version)
 obtain ⟨u4, hu4⟩ := nm (decide ((sel (notIn (tags h.exts)) idI (tags a.exts)).length = 0))
 obtain ⟨u5, hu5⟩ := nm ((tags a.exts).any resv)
 rw [fitsV_eq, ← hu1, ← hu2, ← hu3, ← hu4, ← hu5]
 generalize hr : (⟨_, [], none⟩ : Ret) = r
 obtain ⟨dv, hdv⟩ := nm (row fI h.versions)
 obtain ⟨dx, hdx⟩ := nm (row fExt h.exts)
 obtain ⟨ex, hex⟩ := nm (row fExt a.exts)
 rw [← hdv, ← hdx, ← hex]
 obtain ⟨th, hth⟩ := nm (row fI (tags h.exts))
 obtain ⟨ta, hta⟩ := nm (row fI (tags a.exts))
 obtain ⟨ez, hez⟩ := nm (row fI (sel (notIn (tags h.exts)) idI (tags a.exts)))
 have tl1 : (tags h.exts).length ≤ h.exts.length := sel_len
 have tl2 : (tags a.exts).length ≤ a.exts.length := sel_len
 have wh : ∀ y ∈ h.exts, y.body.length ≤ 1099511627776 := fun y hy => Nat.le_trans (show y.body.length ≤ 1073741824 from mh.2.2 y hy) (by decide)
 have wa : ∀ y ∈ a.exts, y.body.length ≤ 1099511627776 := fun y hy => Nat.le_trans (show y.body.length ≤ 1073741824 from ma.2 y hy) (by decide)
 refine fix_fn2 (fn := ir161) tb_161 rfl rfl (by decide) rfl ?_; intro Q hQ; simp only [shutArgs, shutS, List.map_cons, List.map_nil, ir161, shut_in q0, shut_in q1, shut_in q2, List.head?_nil, reduceCtorEq, if_false, sExt, sHello, sAnswer, sEdit, sDeal, sBox, sDialed, sKnown]
 intro add sub mul arith eq ne lt le gt ge neg conv mn mx not beq len at' ln bd cut app allS isNil mks set o hP F ho
 have lz := F.len_at hez
 have c1 : o 113 [sHello dv dx (.sp 0 0) (.sp 0 1)] = some ⟨[B u1], [], none⟩ := by rw [ho, hu1, hdv, hdx]; exact ok113 _ (by omega) (by omega) wh rfl rfl
 have c2 : o 118 [sAnswer a.version ex (.sp 0 1)] = some ⟨[B u2], [], none⟩ := by rw [ho, hu2, hex]; exact ok118 _ _ (by omega) wa rfl
 have c3 : o 302 [R dv (.sp 0 0), I a.version] = some ⟨[B u3], [], none⟩ := by rw [ho, hu3, hdv]; exact ok302 _ _ (by omega) rfl
 have c4 : o 179 [R ex (.sp 0 0)] = some ⟨[R ta (.ow false)], [], none⟩ := by rw [ho, hta, hex]; exact ok179 _ (by omega) rfl
 have c5 : o 179 [R dx (.sp 0 0)] = some ⟨[R th (.ow false)], [], none⟩ := by rw [ho, hth, hdx]; exact ok179 _ (by omega) rfl
 have c6 : o 287 [R ta (.sp 0 0), R th (.sp 1 0)] = some ⟨[R ez (.ow false)], [], none⟩ := by rw [ho, hez, hth, hta]; exact ok287 _ _ (by omega) (by omega) rfl rfl
 have c7 : o 303 [R ex (.sp 0 0)] = some ⟨[B u5], [], none⟩ := by rw [ho, hu5, hex]; exact ok303 _ (by omega) rfl
 have g1 : eq (len ez) 0 = u4 := by rw [F.eq_n lz (k := 0) (m := 0) rfl, hu4]
 cbv
 rw [c1]; cbv
 refine both (fun d1 => ?_) (fun d1 => ?_) <;> rw [d1] <;> cbv
 rotate_left
 ·rw [hQ]; cbv
  rw [← hr, d1]; rfl
 rw [c2]; cbv
 refine both (fun d2 => ?_) (fun d2 => ?_) <;> rw [d2] <;> cbv
 rotate_left
 ·rw [hQ]; cbv
  rw [← hr, d1, d2]; rfl
 rw [c3]; cbv
 refine both (fun d3 => ?_) (fun d3 => ?_) <;> rw [d3] <;> cbv
 rotate_left
 ·rw [hQ]; cbv
  rw [← hr, d1, d2, d3]; rfl
 rw [c4]; cbv
 rw [c5]; cbv
 rw [c6]; cbv
 rw [g1]; cbv
 refine both (fun d4 => ?_) (fun d4 => ?_) <;> rw [d4] <;> cbv
 rotate_left
 ·rw [hQ]; cbv
  rw [← hr, d1, d2, d3, d4]; rfl
 rw [c7]; cbv
 rw [hQ]; cbv
 rw [← hr, d1, d2, d3, d4, F.not]; rfl
theorem ok355 (n : Int) (h0 : 0 < n) (h1 : n ≤ 1099511627776) : fix Tb md 355 [R [] .nl, I n] = some ⟨[R [] (.ow true)], [], none⟩ := by
 refine fix_special tb_355 (by decide) ?_
 show special 2 [⟨.val, [⟨.row () [], .nl⟩]⟩, ⟨.val, [⟨.int .i64 n, .sc⟩]⟩] = _
 have h2 : 0 < n ∧ n ≤ (lim : Int) := ⟨h0, by simpa [lim] using h1⟩
 simp only [special, h2, and_self, if_true]
theorem ok304 (ls : List (List Int)) (h1 : ls.length ≤ 1099511627776) (h2 : ls.flatten.length ≤ 1099511627776) (h3 : ls.flatten ≠ []) {f0 : Fl} (q0 : inFl f0 = true) : fix Tb md 304 [R (row fR ls) f0] = some ⟨[R (row fI ls.flatten) (.ow false)], [], none⟩ := by
 obtain ⟨et, het⟩ := nm (row fI ls.flatten)
 rw [← het]
 generalize hr : (⟨_, [], none⟩ : Ret) = r
 have h4 : 0 < ls.flatten.length := List.length_pos_iff.2 h3
 obtain ⟨N, hN⟩ := nm (ls.flatten.length)
 rw [← hN] at h2 h4
 obtain ⟨ea, hea⟩ := nm (row fR ls)
 rw [← hea]
 refine fix_fn2 (fn := ir304) tb_304 rfl rfl (by decide) rfl ?_; intro Q hQ; simp only [shutArgs, shutS, List.map_cons, List.map_nil, ir304, shut_in q0, List.head?_nil, reduceCtorEq, if_false, sExt, sHello, sAnswer, sEdit, sDeal, sBox, sDialed, sKnown]
 intro add sub mul arith eq ne lt le gt ge neg conv mn mx not beq len at' ln bd cut app allS isNil mks set o hP F ho
 have la := F.len_at hea
 cbv
 refine loop_ind2 hP (σ := List (List Int) × List (List Int) × Int × Int × Option (List (List V))) (fun s => match s.2.2.2.2 with
  | none => [(0, R ea .sh), (2, R [] .nl), (3, I s.2.2.1), (9, R ea .sh), (10, I (len ea)), (11, I s.2.2.2.1)]
  | some j => [(0, R ea .sh), (2, R [] .nl), (3, I s.2.2.1), (5, R j .sh), (9, R ea .sh), (10, I (len ea)), (11, I s.2.2.2.1)]) (fun s => At s.2.2.2.1 s.2.1.length ∧ ls = s.2.1 ++ s.1 ∧ At s.2.2.1 s.2.1.flatten.length ∧ (s.2.2.2.2 = none → s.2.1 = [])) (fun s => s.1.length) (ls, [], 0, 0, none) rfl ⟨rfl, rfl, rfl, fun _ => rfl⟩ ?_
 intro c9 Q1 hc9 hQ1
 rintro ⟨suf, pre, n, i, j⟩ ⟨hi, hl', hb, hj⟩ ih
 simp only at hi hl' hb hj ih
 cases suf with
 | nil =>
  have hpp : ls = pre := by rw [hl', List.append_nil]
  cases j with
  | none => exfalso; have := hj rfl; rw [this] at hpp; rw [hpp] at hN; simp at hN; omega
  | some je =>
   cbv
   rw [F.lt_f hi la (by simp [hl'])]; cbv
   rw [hQ1]; cbv
   have hn1 : 0 < n ∧ n ≤ 1099511627776 := by unfold At at hb; rw [← hpp, ← hN] at hb; omega
   have c1 : o 355 [R [] .nl, I n] = some ⟨[R [] (.ow true)], [], none⟩ := by rw [ho]; exact ok355 n hn1.1 hn1.2
   rw [c1]; cbv
   clear ih hj hQ1 hc9
   refine loop_ind2 hP (σ := List (List Int) × List (List Int) × List (List V) × Int × Option (List (List V) × Bool)) (fun s => match s.2.2.2.2 with
    | none => [(0, R ea .sh), (2, R [] .nl), (3, I n), (5, R je .sh), (6, R s.2.2.1 (.ow true)), (9, R ea .sh), (10, I (len ea)), (11, I i), (25, R ea .sh), (26, I (len ea)), (27, I s.2.2.2.1)]
    | some (k, true) => [(0, R ea .sh), (2, R [] .nl), (3, I n), (5, R je .sh), (6, R s.2.2.1 (.ow true)), (8, R k .sh), (9, R ea .sh), (10, I (len ea)), (11, I i), (25, R ea .sh), (26, I (len ea)), (27, I s.2.2.2.1)]
    | some (k, false) => [(0, R ea .sh), (2, R [] .nl), (3, I n), (5, R je .sh), (6, R s.2.2.1 (.ow false)), (8, R k .sh), (9, R ea .sh), (10, I (len ea)), (11, I i), (25, R ea .sh), (26, I (len ea)), (27, I s.2.2.2.1)]) (fun s => At s.2.2.2.1 s.2.1.length ∧ ls = s.2.1 ++ s.1 ∧ s.2.2.1 = row fI s.2.1.flatten ∧ (match s.2.2.2.2 with | some (_, false) => True | _ => s.2.1.flatten = [])) (fun s => s.1.length) (ls, [], [], 0, none) rfl ⟨rfl, rfl, rfl, rfl⟩ ?_
   intro c8 Q2 hc8 hQ2
   rintro ⟨suf, pre, eo, m, k⟩ ⟨hm, hk', he, hg⟩ ih
   simp only at hm hk' he hg ih
   rcases k with _ | ⟨kk, _ | _⟩
   all_goals
    simp only at hg
    cases suf with
    | nil =>
     have hp2 : ls = pre := by rw [hk', List.append_nil]
     first
      | (exfalso; rw [hp2, hg] at hN; simp at hN; omega)
      | (cbv
         rw [F.lt_f hm la (by simp [hk'])]; cbv
         rw [hQ2]; cbv
         rw [hQ]; cbv
         rw [← hr, het, he, hp2])
    | cons x suf =>
     have hpl : pre.flatten.length + x.length ≤ 1099511627776 := by
      have : ls.flatten.length = pre.flatten.length + (x.length + suf.flatten.length) := by rw [hk']; simp
      omega
     have hpr : pre.length < ls.length := by rw [hk']; simp
     obtain ⟨ix, hix⟩ := nm (pre.length * 1)
     obtain ⟨e1, he1⟩ := nm (row fI x)
     have p0 : at' 1 ea m = some (ix, [.row () e1]) := by rw [hix, he1]; exact F.get hm hea hk' (fun _ => rfl) (by decide)
     have p1 : allS e1 = true := F.scal he1 (fun _ => rfl)
     have p3 : isNil e1 = x.isEmpty := F.nil he1
     obtain ⟨eo', heo'⟩ := nm (row fI (pre ++ [x]).flatten)
     have p2 : app 1 eo e1 = some eo' := by
      rw [heo']
      have := F.app' (k := 1) he he1 (fun _ => rfl) hpl
      rw [this]; simp
     have hm' : At (add .i64 m 1) (pre ++ [x]).length := at_len (F.inc hm (by omega)) (by simp)
     have hk2 : ls = (pre ++ [x]) ++ suf := by rw [hk']; simp
     cbv
     rw [F.lt_t hm la (by simp [hk'])]; cbv
     rw [p0]; cbv
     rw [p1]; cbv
     rw [p2]; cbv
     first
      | (refine ih (suf, pre ++ [x], eo', add .i64 m 1, some (e1, false)) ⟨hm', hk2, heo', trivial⟩ (by simp))
      | (rw [p1]; cbv
         rw [p3]
         cases x with
         | nil => cbv; exact ih (suf, pre ++ [[]], eo', add .i64 m 1, some (e1, true)) ⟨hm', hk2, heo', by simp only; rw [List.flatten_append, hg]; rfl⟩ (by simp)
         | cons a x => cbv; exact ih (suf, pre ++ [a :: x], eo', add .i64 m 1, some (e1, false)) ⟨hm', hk2, heo', trivial⟩ (by simp))
 | cons x suf =>
  have hpl : pre.flatten.length + x.length ≤ 1099511627776 := by
   have : ls.flatten.length = pre.flatten.length + (x.length + suf.flatten.length) := by rw [hl']; simp
   omega
  have hpr : pre.length < ls.length := by rw [hl']; simp
  obtain ⟨ix, hix⟩ := nm (pre.length * 1)
  obtain ⟨e1, he1⟩ := nm (row fI x)
  have lx := F.len_at he1
  have p0 : at' 1 ea i = some (ix, [.row () e1]) := by rw [hix, he1]; exact F.get hi hea hl' (fun _ => rfl) (by decide)
  have hb' : At (add .i64 n (len e1)) (pre ++ [x]).flatten.length := by
   unfold At at *
   rw [F.add, hb, lx, wrap64 (by omega) (by omega)]; simp
  have g1 : lt (add .i64 n (len e1)) 0 = false := F.lt_f hb' at0 (Nat.zero_le _)
  have hi' : At (add .i64 i 1) (pre ++ [x]).length := at_len (F.inc hi (by omega)) (by simp)
  have hl2 : ls = (pre ++ [x]) ++ suf := by rw [hl']; simp
  rcases j with _ | _
  all_goals
   cbv
   rw [F.lt_t hi la (by simp [hl'])]; cbv
   rw [p0]; cbv
   rw [g1]; cbv
   exact ih (suf, pre ++ [x], add .i64 n (len e1), add .i64 i 1, some e1) ⟨hi', hl2, hb', by simp⟩ (by simp)
def helB (h : Hello) : List Int := if isHel h then (h.versions.length : Int) :: h.versions ++ encX h.exts else []
theorem isHel_ex {h : Hello} (q : isHel h = true) : areEx h.exts = true := by unfold isHel at q; simp only [Bool.and_eq_true] at q; exact q.2
theorem helB_len (h : Hello) : (helB h).length ≤ h.versions.length + 39 := by
 unfold helB
 split
 ·rename_i q
  have := encX_len (isHel_ex q)
  simp; omega
 ·simp
theorem asc_len : ∀ (l : List Int) (d : Int), d ≤ 9 → l.Pairwise (· < ·) → (∀ x ∈ l, d < x ∧ x ≤ 9) → (l.length : Int) ≤ 9 - d
 | [], d, h, _, _ => by simp; omega
 | x :: l, d, h, h1, h2 => by
  have hx := h2 x (by simp)
  have := asc_len l x hx.2 (List.pairwise_cons.1 h1).2 (fun y hy => ⟨(List.pairwise_cons.1 h1).1 y hy, (h2 y (by simp [hy])).2⟩)
  simp only [List.length_cons, Int.natCast_add, Int.natCast_one]; omega
theorem isHel_vl {h : Hello} (q : isHel h = true) : h.versions.length ≤ 9 := by
 unfold isHel at q; simp only [Bool.and_eq_true] at q
 obtain ⟨h1, h2⟩ := areVer_asc q.1
 have := asc_len h.versions 0 (by decide) h1 (fun x hx => by have := h2 x hx; omega)
 omega
theorem helB_small (h : Hello) : (helB h).length ≤ 48 := by
 cases q : isHel h with
 | true => have := isHel_vl q; have := helB_len h; omega
 | false => unfold helB; rw [q]; simp
theorem ok163 (h : Hello) (mh : h.Mid) {f0 f1 : Fl} (q0 : inFl f0 = true) (q1 : inFl f1 = true) : fix Tb md 163 [sHello (row fI h.versions) (row fExt h.exts) f0 f1] = some ⟨[R (row fI (helB h)) (.ow false)], [], none⟩ ∨ (helB h = [] ∧ fix Tb md 163 [sHello (row fI h.versions) (row fExt h.exts) f0 f1] = some ⟨[R [] .nl], [], none⟩) := by
 have mh' := mh
 unfold Hello.Mid at mh'
 have hvl := mh'.1
 have hxl := mh'.2.1
 have wh : ∀ y ∈ h.exts, y.body.length ≤ 1099511627776 := fun y hy => Nat.le_trans (show y.body.length ≤ 1073741824 from mh'.2.2 y hy) (by decide)
 have k1 := ok113 h (by omega) (by omega) wh (f0 := .sp 0 0) (f1 := .sp 0 1) rfl rfl
 cases hi : isHel h with
 | false =>
  rw [hi] at k1
  have hb : helB h = [] := by unfold helB; rw [hi]; rfl
  refine .inr ⟨hb, ?_⟩
  generalize hr : (⟨_, [], none⟩ : Ret) = r
  obtain ⟨dv, hdv⟩ := nm (row fI h.versions)
  obtain ⟨dx, hdx⟩ := nm (row fExt h.exts)
  rw [← hdv, ← hdx] at k1 ⊢
  refine fix_fn2 (fn := ir163) tb_163 rfl rfl (by decide) rfl ?_; intro Q hQ; simp only [shutArgs, shutS, List.map_cons, List.map_nil, ir163, shut_in q0, shut_in q1, List.head?_nil, reduceCtorEq, if_false, sExt, sHello, sAnswer, sEdit, sDeal, sBox, sDialed, sKnown]
  intro add sub mul arith eq ne lt le gt ge neg conv mn mx not beq len at' ln bd cut app allS isNil mks set o hP F ho
  rw [← ho] at k1
  cbv
  rw [k1]; cbv
  rw [show not false = true by rw [F.not]; rfl]; cbv
  rw [hQ]; cbv
  exact congrArg some hr
 | true =>
  rw [hi] at k1
  have hok := isHel_ex hi
  have hlen := encX_len hok
  have hb : helB h = (h.versions.length : Int) :: h.versions ++ encX h.exts := by unfold helB; rw [hi]; rfl
  refine .inl ?_
  rw [hb]
  obtain ⟨n, hn⟩ := nm ((h.versions.length : Int))
  obtain ⟨et, het⟩ := nm (row fI (n :: h.versions ++ encX h.exts))
  rw [← hn, ← het]
  generalize hr : (⟨_, [], none⟩ : Ret) = r
  obtain ⟨dv, hdv⟩ := nm (row fI h.versions)
  obtain ⟨dx, hdx⟩ := nm (row fExt h.exts)
  rw [← hdv, ← hdx] at k1 ⊢
  obtain ⟨ex, hex⟩ := nm (row fI (encX h.exts))
  refine fix_fn2 (fn := ir163) tb_163 rfl rfl (by decide) rfl ?_; intro Q hQ; simp only [shutArgs, shutS, List.map_cons, List.map_nil, ir163, shut_in q0, shut_in q1, List.head?_nil, reduceCtorEq, if_false, sExt, sHello, sAnswer, sEdit, sDeal, sBox, sDialed, sKnown]
  intro add sub mul arith eq ne lt le gt ge neg conv mn mx not beq len at' ln bd cut app allS isNil mks set o hP F ho
  rw [← ho] at k1
  have c2 : o 294 [R dx (.sp 0 0)] = some ⟨[R ex (.ow false), B true], [], none⟩ := by rw [ho, hdx, hex]; exact ok294 _ hok rfl
  have g1 : len dv = n := by rw [hn]; exact F.len_at hdv
  cbv
  rw [k1]; cbv
  rw [show not true = false by rw [F.not]; rfl]; cbv
  rw [c2]; cbv
  rw [g1]; cbv
  have c3 : o 304 [R [[.row () [[.int .i64 n]]], [.row () dv], [.row () ex]] (.sp 0 0)] = some ⟨[R et (.ow false)], [], none⟩ := by
   rw [ho, het, hdv, hex]
   have := ok304 [[n], h.versions, encX h.exts] (by simp) (by simp; omega) (by simp) (f0 := .sp 0 0) rfl
   simpa [row, fR, fI] using this
  rw [c3]; cbv
  rw [hQ]; cbv
  exact congrArg some hr
def notRes (e : Ext) : Bool := !resv e.tag
def tagIn (b : List Int) (e : Ext) : Bool := hasI b e.tag
end Go.Vm
