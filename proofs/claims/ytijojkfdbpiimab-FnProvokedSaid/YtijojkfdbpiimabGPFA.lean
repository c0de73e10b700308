/- What the functions answer. -/
import Derived.Test.YtijojkfdbpiimabGPTab
set_option maxHeartbeats 4000000
set_option maxRecDepth 10000
set_option linter.unusedVariables false
set_option linter.unusedSimpArgs false
namespace Go.Vm
theorem share2 {P G C : Prop} (main : (P → G) → C) (proof : P → G) : C := main proof
theorem fix_bx {T : Nat → Option FnIr} {md : Modes} {g : Nat} {fn : FnIr} (hT : T g = some fn) (hsp : fn.sp = 0) (hm : fn.modes = [.mbox]) {cs : List (Cell Unit)} {rest : List SU} (hlen : rest.length + 1 = fn.np) (hle : fn.np ≤ fn.ntmps) {r : Ret}
  (hw : ∀ Q, Q = finQ fn (⟨.box (), cs⟩ :: rest.map shutS) (2 * fn.ntmps + 2) r → Sym (fun P O => wpc P O md fn.ntmps (2 * fn.ntmps + 2) fn.body (enumS 0 (⟨.ptr (lockS fn.ntmps + 1) 0, []⟩ :: rest.map shutS) ++ [(lockS fn.ntmps + 1, ⟨.box (), cs⟩)]) Q) (fix T md)) : fix T md g (⟨.box (), cs⟩ :: rest) = some r := by
 have hs : shutArgs fn.modes (⟨.box (), cs⟩ :: rest) = ⟨.box (), cs⟩ :: rest.map shutS := by rw [hm]; rfl
 refine fix_wp hT hsp (by simpa using hlen) hle (m := enumS 0 (⟨.ptr (lockS fn.ntmps + 1) 0, []⟩ :: rest.map shutS) ++ [(lockS fn.ntmps + 1, ⟨.box (), cs⟩)]) ?_ ?_
 ·rw [hs]; exact start_box (by simpa using hlen) hle
 ·rw [hs]; exact (hw _ rfl).at
structure Cur where
 b : List Int
 i : Nat
 h : Int
def Cur.ii (c : Cur) : Int := (c.i : Int)
def Cur.Ok (c : Cur) : Prop := c.i ≤ c.b.length ∧ c.b.length ≤ 1048576
def fU (n : Int) : List V := [.int .u8 n]
abbrev sCur (eb : List (List V)) (f : Fl) (i h : Int) : SU := ⟨.box (), [⟨.row () eb, f⟩, ⟨.int .i64 i, .sc⟩, ⟨.int .i64 h, .sc⟩]⟩
abbrev vCur (eb : List (List V)) (i h : Int) : List V := [.row () eb, .int .i64 i, .int .i64 h]
def w64 (n : Int) : Int := IntKind.wrap .i64 n
def shrI (x : Int) (k : Nat) : Int := x.fdiv (2 ^ k)
def bitI (op : BinOp) (x y : Int) : Int := match binInt op .i64 x y with | some (.int _ n) => n | _ => 0
def stepH (h : Int) : Int := w64 (w64 (h * 6364136223846793005) + 1442695040888963407)
def mixH (h : Int) : Int := bitI .and (bitI .xor (shrI h 33) (shrI h 47)) 255
def byteV (c : Cur) : Int := match c.b[c.i]? with | some x => bitI .and (w64 (mixH (stepH c.h) + w64 x)) 255 | none => mixH (stepH c.h)
def byteC (c : Cur) : Cur := ⟨c.b, match c.b[c.i]? with | some _ => c.i + 1 | none => c.i, stepH c.h⟩
theorem byteC_ok {c : Cur} (q : c.Ok) : (byteC c).Ok := by
 unfold Cur.Ok byteC at *
 simp only
 split
 ·rename_i x hx
  have := (List.getElem?_eq_some_iff.1 hx).1
  omega
 ·exact q
theorem and255 (x : Int) : 0 ≤ bitI .and x 255 ∧ bitI .and x 255 ≤ 255 := by
 have h1 : (BitVec.ofInt 64 x &&& BitVec.ofInt 64 255).toNat ≤ 255 := by
  rw [BitVec.toNat_and]
  exact Nat.and_le_right
 have e : bitI .and x 255 = IntKind.wrap .i64 ((BitVec.ofInt 64 x &&& BitVec.ofInt 64 255).toNat) := rfl
 rw [e, wrap64 (by omega) (by omega)]
 omega
theorem byteV_in (c : Cur) : 0 ≤ byteV c ∧ byteV c ≤ 255 := by
 unfold byteV; split
 ·exact and255 _
 ·exact and255 _
def belowV (n : Int) (c : Cur) : Int := Int.tmod (byteV c) n
theorem belowV_in {n : Int} {c : Cur} (h : 0 < n) : 0 ≤ belowV n c ∧ belowV n c < n := by
 have := byteV_in c
 unfold belowV
 rw [Int.tmod_eq_emod_of_nonneg this.1]
 exact ⟨Int.emod_nonneg _ (by omega), Int.emod_lt_of_pos _ h⟩
def onceV (n : Int) (c : Cur) : Bool := decide (belowV n c = 0)
def intV (l : List Int) (c : Cur) : Int := l.getD (belowV l.length c).toNat 0
theorem intV_mem {l : List Int} {c : Cur} (h : l ≠ []) : intV l c ∈ l := by
 have h0 : 0 < l.length := List.length_pos_iff.2 h
 have := belowV_in (n := l.length) (c := c) (by omega)
 unfold intV
 rw [List.getD_eq_getElem?_getD, List.getElem?_eq_getElem (by omega)]
 exact List.getElem_mem _
theorem ok108 (l : List Int) {f0 : Fl} (q0 : inFl f0 = true) : fix Tb md 108 [R (row fU l) f0] = some ⟨[B (decide (1048576 < l.length))], [], none⟩ := by
 obtain ⟨v, hv⟩ := nm (decide (1048576 < l.length))
 rw [← hv]
 generalize hr : (⟨_, [], none⟩ : Ret) = r
 obtain ⟨ea, hea⟩ := nm (row fU l)
 rw [← hea]
 refine fix_fn2 (fn := ir108) tb_108 rfl rfl (by decide) rfl ?_; intro Q hQ; simp only [shutArgs, shutS, List.map_cons, List.map_nil, ir108, shut_in q0, List.head?_nil, reduceCtorEq, if_false, sExt, sHello, sAnswer, sEdit, sDeal, sBox, sDialed, sKnown]
 intro add sub mul arith eq ne lt le gt ge neg conv mn mx not beq len at' ln bd cut app allS isNil mks set o hP F ho
 have la := F.len_at hea
 have g1 : gt (len ea) 1048576 = v := by rw [hv]; exact F.gt_n la (k := 1048576) (m := 1048576) rfl
 cbv
 rw [g1, hQ]; cbv
 exact congrArg some hr
theorem ok228 (a b : List Int) (hl : a.length ≤ 1099511627776) {f0 f1 : Fl} (h0 : inFl f0 = true) (h1 : inFl f1 = true) : fix Tb md 228 [R (row fI a) f0, R (row fI b) f1] = some ⟨[B (decide (a = b))], [], none⟩ := by
 refine fix_fn (fn := ir228) tb_228 rfl rfl (by decide) rfl ?_; simp only [shutArgs, shutS, List.map_cons, List.map_nil, ir228, shut_in h0, shut_in h1, List.head?_nil, reduceCtorEq, if_false, sExt, sHello, sAnswer, sEdit, sDeal, sBox, sDialed, sKnown]
 generalize hr : (⟨_, [], none⟩ : Ret) = r
 obtain ⟨ea, hea⟩ := nm (row fI a)
 obtain ⟨eb, heb⟩ := nm (row fI b)
 rw [← hea, ← heb]
 intro add sub mul arith eq ne lt le gt ge neg conv mn mx not beq len at' ln bd cut app allS isNil mks set o hP F ho
 have la := F.len_at hea
 have lb := F.len_at heb
 cbv
 by_cases hab : a.length = b.length
 ·rw [F.ne_f (by unfold At at la lb; omega)]; cbv
  refine loop_ind hP (σ := List Int × List Int × List Int × Int) (fun s => [(0, R ea .sh), (1, R eb .sh), (4, B false), (5, I s.2.2.2)]) (fun s => At s.2.2.2 s.1.length ∧ a = s.1 ++ s.2.1 ∧ b = s.1 ++ s.2.2.1) (fun s => s.2.1.length) ([], a, b, 0) rfl ⟨rfl, rfl, rfl⟩ ?_
  rintro ⟨pre, sa, sb, i⟩ ⟨hi, ha, hb⟩ ih
  simp only at hi ha hb ih
  cbv
  have hlen : sa.length = sb.length := by simp [ha, hb] at hab; exact hab
  match sa, sb, hlen, ha, hb with
  | [], [], _, ha, hb =>
   rw [F.lt_f hi la (by simp [ha])]; cbv
   rw [← hr]; simp [ha, hb]
  | x :: sa, y :: sb, _, ha, hb =>
   rw [F.lt_t hi la (by simp [ha])]; cbv
   obtain ⟨ix, hix⟩ := nm (pre.length * 1)
   rw [show at' 1 ea i = some (ix, [.int .i64 x]) by rw [hix]; exact F.get hi hea ha (fun _ => rfl) (by decide)]; cbv
   rw [show at' 1 eb i = some (ix, [.int .i64 y]) by rw [hix]; exact F.get hi heb hb (fun _ => rfl) (by decide)]; cbv
   by_cases hxy : x = y
   ·rw [F.ne_f hxy]; cbv
    refine ih (pre ++ [x], sa, sb, add .i64 i 1) ⟨at_len (F.inc hi (by simp [ha] at hl; omega)) (by simp), by simp [ha], by simp [hb, hxy]⟩ (by simp)
   ·rw [F.ne_t hxy]; cbv
    rw [← hr]; simp [ha, hb, hxy]
 ·rw [F.ne_t (by unfold At at la lb; omega)]; cbv
  rw [← hr]
  simp
  intro e; exact hab (by rw [e])
def sel {α β : Type} (P : α → Bool) (g : α → β) (l : List α) : List β := (l.filter P).map g
theorem sel_t {α β : Type} {P : α → Bool} {g : α → β} {a : List α} {x : α} (h : P x = true) : sel P g (a ++ [x]) = sel P g a ++ [g x] := by unfold sel; rw [List.filter_append, List.filter_cons, h]; simp
theorem sel_f {α β : Type} {P : α → Bool} {g : α → β} {a : List α} {x : α} (h : P x = false) : sel P g (a ++ [x]) = sel P g a := by unfold sel; rw [List.filter_append, List.filter_cons, h]; simp
theorem sel_len {α β : Type} {P : α → Bool} {g : α → β} {a : List α} : (sel P g a).length ≤ a.length := by unfold sel; rw [List.length_map]; exact List.length_filter_le _ _
def hasI (l : List Int) (n : Int) : Bool := l.any fun y => decide (y = n)
def idE (e : Ext) : Ext := e
def idI (n : Int) : Int := n
theorem sel_idE {P : Ext → Bool} {l : List Ext} : sel P idE l = l.filter P := by unfold sel idE; simp
theorem sel_idI {P : Int → Bool} {l : List Int} : sel P idI l = l.filter P := by unfold sel idI; simp
theorem ok285 (l : List Int) (n : Int) (hl : l.length ≤ 1099511627776) {f0 : Fl} (h0 : inFl f0 = true) : fix Tb md 285 [R (row fI l) f0, I n] = some ⟨[B (hasI l n)], [], none⟩ := by
 obtain ⟨T, hT⟩ := nm (hasI l n)
 rw [← hT]
 generalize hr : (⟨_, [], none⟩ : Ret) = r
 obtain ⟨ea, hea⟩ := nm (row fI l)
 rw [← hea]
 refine fix_fn2 (fn := ir285) tb_285 rfl rfl (by decide) rfl ?_; intro Q hQ; simp only [shutArgs, shutS, List.map_cons, List.map_nil, ir285, shut_in h0, List.head?_nil, reduceCtorEq, if_false, sExt, sHello, sAnswer, sEdit, sDeal, sBox, sDialed, sKnown]
 intro add sub mul arith eq ne lt le gt ge neg conv mn mx not beq len at' ln bd cut app allS isNil mks set o hP F ho
 have la := F.len_at hea
 cbv
 refine loop_ind2 hP (σ := List Int × List Int × Int) (fun s => [(0, R ea .sh), (1, I n), (4, B false), (5, I s.2.2)]) (fun s => At s.2.2 s.2.1.length ∧ l = s.2.1 ++ s.1 ∧ hasI s.1 n = T) (fun s => s.1.length) (l, [], 0) rfl ⟨rfl, rfl, hT.symm⟩ ?_
 intro c1 Q1 hc1 hQ1
 rintro ⟨suf, pre, i⟩ ⟨hi, hl', hb⟩ ih
 simp only at hi hl' hb ih
 cbv
 cases suf with
 | nil =>
  rw [F.lt_f hi la (by simp [hl'])]; cbv
  rw [hQ1]; cbv
  rw [hQ]; cbv
  rw [← hr, ← hb]; rfl
 | cons x suf =>
  obtain ⟨v, hv⟩ := nm (decide (x = n))
  have hT' : T = (v || hasI suf n) := by rw [← hb, hv]; rfl
  obtain ⟨ix, hix⟩ := nm (pre.length * 1)
  rw [F.lt_t hi la (by simp [hl'])]; cbv
  rw [show at' 1 ea i = some (ix, [.int .i64 x]) by rw [hix]; exact F.get hi hea hl' (fun _ => rfl) (by decide)]; cbv
  rw [show eq x n = v by rw [F.eq, hv]]; cbv
  refine both (fun d => ?_) (fun d => ?_) <;> rw [d] <;> cbv
  ·rw [hQ1]; cbv
   rw [hQ]; cbv
   rw [← hr, hT', d]; rfl
  ·refine ih (suf, pre ++ [x], add .i64 i 1) ⟨at_len (F.inc hi (by simp [hl'] at hl; omega)) (by simp), by simp [hl'], ?_⟩ (by simp)
   rw [hT', d]; rfl
def ixOf {α : Type} (p : α → Bool) : List α → Int → Int
 | [], _ => -1
 | x :: l, i => if p x = true then i else ixOf p l (i + 1)
theorem ixOf_ge {α : Type} (p : α → Bool) : ∀ (l : List α) (i : Int), 0 ≤ i → decide (0 ≤ ixOf p l i) = l.any p
 | [], i, h => by simp [ixOf]
 | x :: l, i, h => by
  unfold ixOf
  rw [List.any_cons]
  by_cases hx : p x = true
  ·rw [if_pos hx, hx]; simpa using h
  ·rw [if_neg hx, ixOf_ge p l (i + 1) (by omega)]; simp at hx; simp [hx]
theorem ixOf_none {α : Type} {p : α → Bool} : ∀ {l : List α} {i : Int}, l.any p = false → ixOf p l i = -1
 | [], i, _ => rfl
 | x :: l, i, h => by
  rw [List.any_cons, Bool.or_eq_false_iff] at h
  unfold ixOf
  rw [if_neg (by rw [h.1]; decide), ixOf_none h.2]
def tagP (t : Int) (e : Ext) : Bool := decide (e.tag = t)
def extOf (l : List Ext) (t : Int) : Int := ixOf (tagP t) l 0
theorem ixOf_pre {α : Type} {p : α → Bool} : ∀ {pre : List α} {x : α} {suf : List α} {i : Int}, p x = true → (pre.any p = false → ixOf p (pre ++ x :: suf) i = i + (pre.length : Int)) ∧ (pre.any p = true → ixOf p (pre ++ x :: suf) i < i + (pre.length : Int))
 | [], x, suf, i, hx => by simp [ixOf, hx]
 | y :: pre, x, suf, i, hx => by
  obtain ⟨h1, h2⟩ := ixOf_pre (pre := pre) (suf := suf) (i := i + 1) hx
  rw [List.cons_append, List.any_cons]
  unfold ixOf
  by_cases hy : p y = true
  ·rw [if_pos hy, hy]; simp; omega
  ·rw [if_neg hy]; simp at hy; rw [hy, Bool.false_or]
   constructor
   ·intro q; rw [h1 q]; simp; omega
   ·intro q; have := h2 q; simp; omega
theorem ixOf_lt {α : Type} {p : α → Bool} {pre : List α} {x : α} {suf : List α} {i : Int} (hx : p x = true) (hi : At i pre.length) : decide (ixOf p (pre ++ x :: suf) 0 < i) = pre.any p := by
 unfold At at hi
 obtain ⟨h1, h2⟩ := ixOf_pre (pre := pre) (suf := suf) (i := 0) hx
 cases h : pre.any p with
 | false => rw [h1 h, hi]; simp
 | true => have := h2 h; rw [hi]; simp; omega
theorem ok286 (l : List Ext) (t : Int) (hl : l.length ≤ 1099511627776) {f0 : Fl} (h0 : inFl f0 = true) : fix Tb md 286 [R (row fExt l) f0, I t] = some ⟨[I (extOf l t)], [], none⟩ := by
 obtain ⟨T, hT⟩ := nm (extOf l t)
 rw [← hT]
 generalize hr : (⟨_, [], none⟩ : Ret) = r
 obtain ⟨ea, hea⟩ := nm (row fExt l)
 rw [← hea]
 refine fix_fn2 (fn := ir286) tb_286 rfl rfl (by decide) rfl ?_; intro Q hQ; simp only [shutArgs, shutS, List.map_cons, List.map_nil, ir286, shut_in h0, List.head?_nil, reduceCtorEq, if_false, sExt, sHello, sAnswer, sEdit, sDeal, sBox, sDialed, sKnown]
 intro add sub mul arith eq ne lt le gt ge neg conv mn mx not beq len at' ln bd cut app allS isNil mks set o hP F ho
 have la := F.len_at hea
 cbv
 refine loop_ind2 hP (σ := List Ext × List Ext × Int) (fun s => [(0, R ea .sh), (1, I t), (4, I 0), (5, I s.2.2)]) (fun s => At s.2.2 s.2.1.length ∧ l = s.2.1 ++ s.1 ∧ (s.2.1.any (tagP t)) = false) (fun s => s.1.length) (l, [], 0) rfl ⟨rfl, rfl, rfl⟩ ?_
 intro c1 Q1 hc1 hQ1
 rintro ⟨suf, pre, i⟩ ⟨hi, hl', hb⟩ ih
 simp only at hi hl' hb ih
 cbv
 cases suf with
 | nil =>
  rw [F.lt_f hi la (by simp [hl'])]; cbv
  rw [hQ1]; cbv
  rw [hQ]; cbv
  rw [← hr, hT, show extOf l t = -1 from ixOf_none (by rw [hl', List.append_nil]; exact hb)]
 | cons x suf =>
  obtain ⟨v, hv⟩ := nm (tagP t x)
  have hT' : v = true → T = i := fun q => by
   rw [hT, hl']; unfold At at hi
   rw [show extOf (pre ++ x :: suf) t = 0 + (pre.length : Int) from (ixOf_pre (hv ▸ q)).1 hb, hi]; simp
  rw [F.lt_t hi la (by simp [hl'])]; cbv
  obtain ⟨ix, hix⟩ := nm (pre.length * 2)
  obtain ⟨e1, he1⟩ := nm (row fI x.body)
  rw [show at' 2 ea i = some (ix, [.int .i64 x.tag, .row () e1]) by rw [hix, he1]; exact F.get hi hea hl' (fun _ => rfl) (by decide)]; cbv
  rw [show eq x.tag t = v by rw [F.eq, hv]; rfl]; cbv
  refine both (fun d => ?_) (fun d => ?_) <;> rw [d] <;> cbv
  ·rw [hQ1]; cbv
   rw [hQ]; cbv
   rw [← hr, hT' d]
  ·refine ih (suf, pre ++ [x], add .i64 i 1) ⟨at_len (F.inc hi (by simp [hl'] at hl; omega)) (by simp), by simp [hl'], ?_⟩ (by simp)
   simp only
   rw [List.any_append, hb, List.any_cons, ← hv, d]; rfl
def bodyOk (l : List Ext) (e : Ext) : Bool := match l.find? (tagP e.tag) with | none => false | some d => decide (d.body = e.body)
def isPart (x h : Hello) : Bool := x.versions.all (hasI h.versions) && x.exts.all (bodyOk h.exts)
theorem ixOf_find {α : Type} (p : α → Bool) : ∀ (l : List α) (i : Int), (l.find? p = none ∧ ixOf p l i = -1) ∨ ∃ (pre : List α) (d : α) (suf : List α), l = pre ++ d :: suf ∧ ixOf p l i = i + (pre.length : Int) ∧ l.find? p = some d
 | [], i => .inl ⟨rfl, rfl⟩
 | x :: l, i => by
  by_cases hx : p x = true
  ·exact .inr ⟨[], x, l, rfl, by unfold ixOf; rw [if_pos hx]; simp, by rw [List.find?_cons, hx]⟩
  ·have hx' : p x = false := by simpa using hx
   rcases ixOf_find p l (i + 1) with ⟨h1, h2⟩ | ⟨pre, d, suf, h1, h2, h3⟩
   ·exact .inl ⟨by rw [List.find?_cons, hx']; exact h1, by unfold ixOf; rw [if_neg hx]; exact h2⟩
   ·exact .inr ⟨x :: pre, d, suf, by rw [h1]; rfl, by unfold ixOf; rw [if_neg hx, h2]; simp; omega, by rw [List.find?_cons, hx']; exact h3⟩
theorem extOf_find (l : List Ext) (t : Int) : (l.find? (tagP t) = none ∧ extOf l t = -1) ∨ ∃ (pre : List Ext) (d : Ext) (suf : List Ext), l = pre ++ d :: suf ∧ At (extOf l t) pre.length ∧ 0 ≤ extOf l t ∧ l.find? (tagP t) = some d := by
 rcases ixOf_find (tagP t) l 0 with ⟨h1, h2⟩ | ⟨pre, d, suf, h1, h2, h3⟩
 ·exact .inl ⟨h1, h2⟩
 ·refine .inr ⟨pre, d, suf, h1, ?_, ?_, h3⟩
  ·unfold At; unfold extOf; rw [h2]; simp
  ·unfold extOf; rw [h2]; omega
theorem ok230 (n lo hi : Int) : fix Tb md 230 [I n, I lo, I hi] = some ⟨[B (inR n lo hi)], [], none⟩ := by
 refine fix_fn (fn := ir230) tb_230 rfl rfl (by decide) rfl ?_; simp only [shutArgs, shutS, List.map_cons, List.map_nil, ir230, List.head?_nil, reduceCtorEq, if_false, sExt, sHello, sAnswer, sEdit, sDeal, sBox, sDialed, sKnown]
 generalize hr : (⟨_, [], none⟩ : Ret) = r
 intro add sub mul arith eq ne lt le gt ge neg conv mn mx not beq len at' ln bd cut app allS isNil mks set o hP F ho
 cbv
 repeat' (refine both (fun c => ?_) (fun c => ?_) <;> (try rw [c]) <;> (try cbv))
 all_goals (simp only [F.le, F.ge, F.lt, F.gt] at *; subst hr; (try simp_all [inR]) <;> (try omega))
def notIn (b : List Int) (x : Int) : Bool := !hasI b x
def gaP (x : Hello) (e : Ext) : Bool := decide (extOf x.exts e.tag < 0) && inR e.tag 0 255
def gaF (e : Ext) : Int := 1000 + e.tag
def givenV (h x : Hello) : List Int := sel (notIn x.versions) idI h.versions ++ sel (gaP x) gaF h.exts
theorem givenV_len (h x : Hello) : (givenV h x).length ≤ h.versions.length + h.exts.length := by
 unfold givenV
 have h1 : (sel (notIn x.versions) idI h.versions).length ≤ h.versions.length := sel_len
 have h2 : (sel (gaP x) gaF h.exts).length ≤ h.exts.length := sel_len
 rw [List.length_append]; omega
def yesE (_ : Ext) : Bool := true
theorem ok179 (l : List Ext) (hl : l.length ≤ 1073741824) {f0 : Fl} (h0 : inFl f0 = true) : fix Tb md 179 [R (row fExt l) f0] = some ⟨[R (row fI (sel yesE Ext.tag l)) (.ow false)], [], none⟩ := by
 obtain ⟨et, het⟩ := nm (row fI (sel yesE Ext.tag l))
 rw [← het]
 generalize hr : (⟨_, [], none⟩ : Ret) = r
 obtain ⟨ea, hea⟩ := nm (row fExt l)
 rw [← hea]
 refine fix_fn2 (fn := ir179) tb_179 rfl rfl (by decide) rfl ?_; intro Q hQ; simp only [shutArgs, shutS, List.map_cons, List.map_nil, ir179, shut_in h0, List.head?_nil, reduceCtorEq, if_false, sExt, sHello, sAnswer, sEdit, sDeal, sBox, sDialed, sKnown]
 intro add sub mul arith eq ne lt le gt ge neg conv mn mx not beq len at' ln bd cut app allS isNil mks set o hP F ho
 have la := F.len_at hea
 cbv
 refine loop_ind2 hP (σ := List Ext × List Ext × List (List V) × Int × Option (Int × List (List V))) (fun s => match s.2.2.2.2 with | none => [(0, R ea .sh), (2, R [] .nl), (3, R s.2.2.1 (.ow false)), (7, R ea .sh), (8, I (len ea)), (9, I s.2.2.2.1)] | some j => [(0, R ea .sh), (2, R [] .nl), (3, R s.2.2.1 (.ow false)), (5, ⟨.ptr 25 0, []⟩), (7, R ea .sh), (8, I (len ea)), (9, I s.2.2.2.1), (25, ⟨.box (), [⟨.int .i64 j.1, .sc⟩, ⟨.row () j.2, .sh⟩]⟩)]) (fun s => At s.2.2.2.1 s.2.1.length ∧ l = s.2.1 ++ s.1 ∧ s.2.2.1 = row fI (sel yesE Ext.tag s.2.1)) (fun s => s.1.length) (l, [], [], 0, none) rfl ⟨rfl, rfl, rfl⟩ ?_
 intro c1 Q1 hc1 hQ1
 rintro ⟨suf, pre, eo, i, j⟩ ⟨hi, hl', hb⟩ ih
 simp only at hi hl' hb ih
 rcases j with _ | ⟨j1, j2⟩
 all_goals
  cbv
  cases suf with
  | nil =>
   rw [F.lt_f hi la (by simp [hl'])]; cbv
   rw [hQ1]; cbv
   rw [hQ]; cbv
   rw [← hr, het, hb, hl', List.append_nil]
  | cons x suf =>
   obtain ⟨ix, hix⟩ := nm (pre.length * 2)
   have hpre : pre.length ≤ 1073741824 := by rw [hl'] at hl; simp at hl; omega
   have hs : (sel yesE Ext.tag pre).length ≤ pre.length := sel_len
   have hi' : At (add .i64 i 1) (pre ++ [x]).length := at_len (F.inc hi (by omega)) (by simp)
   have hl2 : l = (pre ++ [x]) ++ suf := by rw [hl']; simp
   have hmem : x ∈ l := by rw [hl']; simp
   obtain ⟨e1, he1⟩ := nm (row fI x.body)
   have p0 : at' 2 ea i = some (ix, [.int .i64 x.tag, .row () e1]) := by rw [hix, he1]; exact F.get hi hea hl' (fun _ => rfl) (by decide)
   rw [F.lt_t hi la (by simp [hl'])]; cbv
   rw [p0]; cbv
   rw [show allS [[.int .i64 x.tag]] = true by rw [F.allS]; rfl]; cbv
   obtain ⟨eo', heo'⟩ := nm (row fI (sel yesE Ext.tag pre ++ [Ext.tag x]))
   rw [show app 1 eo [[.int .i64 x.tag]] = some eo' by rw [heo']; exact F.push hb (fun _ => rfl) rfl (by omega)]; cbv
   refine ih (suf, pre ++ [x], eo', add .i64 i 1, some (x.tag, e1)) ⟨hi', hl2, by simp only; rw [heo', sel_t rfl]⟩ (by simp)
theorem ok232 (x lo hi : Int) : fix Tb md 232 [I x, I lo, I hi] = some ⟨[B (inR x lo hi)], [], none⟩ := by
 refine fix_fn (fn := ir232) tb_232 rfl rfl (by decide) rfl ?_; simp only [shutArgs, shutS, List.map_cons, List.map_nil, ir232, List.head?_nil, reduceCtorEq, if_false, sExt, sHello, sAnswer, sEdit, sDeal, sBox, sDialed, sKnown]
 generalize hr : (⟨_, [], none⟩ : Ret) = r
 intro add sub mul arith eq ne lt le gt ge neg conv mn mx not beq len at' ln bd cut app allS isNil mks set o hP F ho
 cbv
 repeat' (first | (refine both (fun c => ?_) (fun c => ?_) <;> (try rw [c]) <;> (try cbv)))
 all_goals (clear hP  ho; try simp only [F.eq, F.ne, F.le, F.lt, F.ge, F.gt, F.not, F.beq] at *; clear F; subst hr)
 all_goals (simp_all [inR] <;> (intros; omega))
theorem hasI_ix (l : List Int) (n : Int) : decide (0 ≤ ixOf (fun y => decide (y = n)) l 0) = hasI l n := ixOf_ge _ l 0 (by decide)
theorem ok354 (l : List Int) (n : Int) (hl : l.length ≤ 1099511627776) {f0 : Fl} (h0 : inFl f0 = true) : fix Tb md 354 [R (row fI l) f0, I n] = some ⟨[I (ixOf (fun y => decide (y = n)) l 0)], [], none⟩ := by
 obtain ⟨T, hT⟩ := nm (ixOf (fun y => decide (y = n)) l 0)
 rw [← hT]
 generalize hr : (⟨_, [], none⟩ : Ret) = r
 obtain ⟨ea, hea⟩ := nm (row fI l)
 rw [← hea]
 refine fix_fn2 (fn := ir354) tb_354 rfl rfl (by decide) rfl ?_; intro Q hQ; simp only [shutArgs, shutS, List.map_cons, List.map_nil, ir354, shut_in h0, List.head?_nil, reduceCtorEq, if_false, sExt, sHello, sAnswer, sEdit, sDeal, sBox, sDialed, sKnown]
 intro add sub mul arith eq ne lt le gt ge neg conv mn mx not beq len at' ln bd cut app allS isNil mks set o hP F ho
 have la := F.len_at hea
 cbv
 refine loop_ind2 hP (σ := List Int × List Int × Int × Option Int) (fun s => match s.2.2.2 with | none => [(0, R ea .sh), (1, I n), (4, I 0), (7, I (len ea)), (8, I s.2.2.1)] | some j => [(0, R ea .sh), (1, I n), (4, I 0), (5, I j), (7, I (len ea)), (8, I s.2.2.1)]) (fun s => At s.2.2.1 s.2.1.length ∧ l = s.2.1 ++ s.1 ∧ ixOf (fun y => decide (y = n)) s.1 s.2.2.1 = T) (fun s => s.1.length) (l, [], 0, none) rfl ⟨rfl, rfl, hT.symm⟩ ?_
 intro c1 Q1 hc1 hQ1
 rintro ⟨suf, pre, i, j⟩ ⟨hi, hl', hb⟩ ih
 simp only at hi hl' hb ih
 have hpre : pre.length ≤ 1099511627776 := by rw [hl'] at hl; simp at hl; omega
 rcases j with _ | _
 all_goals
  cbv
  cases suf with
  | nil =>
   rw [F.lt_f hi la (by simp [hl'])]; cbv
   rw [hQ1]; cbv
   rw [hQ]; cbv
   rw [← hr, ← hb]; rfl
  | cons x suf =>
   obtain ⟨v, hv⟩ := nm (decide (x = n))
   have hb' : T = if v = true then i else ixOf (fun y => decide (y = n)) suf (i + 1) := by rw [← hb, hv]; rfl
   have hinc : add .i64 i 1 = i + 1 := by unfold At at hi; rw [F.add, hi, wrap64 (by omega) (by omega)]
   obtain ⟨ix, hix⟩ := nm (pre.length * 1)
   rw [F.lt_t hi la (by simp [hl'])]; cbv
   rw [show at' 1 ea i = some (ix, [.int .i64 x]) by rw [hix]; exact F.get hi hea hl' (fun _ => rfl) (by decide)]; cbv
   rw [show eq n x = v by rw [F.eq, hv]; exact decide_eq_decide.2 eq_comm]; cbv
   refine both (fun d => ?_) (fun d => ?_) <;> rw [d] <;> cbv
   ·rw [hQ1]; cbv
    rw [hQ]; cbv
    rw [← hr, hb', if_pos d]
   ·refine ih (suf, pre ++ [x], add .i64 i 1, some i) ⟨at_len (F.inc hi (by omega)) (by simp), by simp [hl'], ?_⟩ (by simp)
    rw [hb', if_neg (by rw [d]; decide), hinc]
theorem ok302 (l : List Int) (n : Int) (hl : l.length ≤ 1099511627776) {f0 : Fl} (h0 : inFl f0 = true) : fix Tb md 302 [R (row fI l) f0, I n] = some ⟨[B (hasI l n)], [], none⟩ := by
 rw [← hasI_ix]
 obtain ⟨v, hv⟩ := nm (ixOf (fun y => decide (y = n)) l 0)
 rw [← hv]
 generalize hr : (⟨_, [], none⟩ : Ret) = r
 obtain ⟨ea, hea⟩ := nm (row fI l)
 rw [← hea]
 refine fix_fn2 (fn := ir302) tb_302 rfl rfl (by decide) rfl ?_; intro Q hQ; simp only [shutArgs, shutS, List.map_cons, List.map_nil, ir302, shut_in h0, List.head?_nil, reduceCtorEq, if_false, sExt, sHello, sAnswer, sEdit, sDeal, sBox, sDialed, sKnown]
 intro add sub mul arith eq ne lt le gt ge neg conv mn mx not beq len at' ln bd cut app allS isNil mks set o hP F ho
 have c1 : o 354 [R ea (.sp 0 0), I n] = some ⟨[I v], [], none⟩ := by rw [ho, hv, hea]; exact ok354 _ _ hl rfl
 cbv
 rw [c1]; cbv
 rw [hQ]; cbv
 rw [← hr, F.ge]
theorem ok287 (l b : List Int) (hl : l.length ≤ 1073741824) (hb' : b.length ≤ 1073741824) {f0 f1 : Fl} (h0 : inFl f0 = true) (h1 : inFl f1 = true) : fix Tb md 287 [R (row fI l) f0, R (row fI b) f1] = some ⟨[R (row fI (sel (notIn b) idI l)) (.ow false)], [], none⟩ := by
 obtain ⟨et, het⟩ := nm (row fI (sel (notIn b) idI l))
 rw [← het]
 generalize hr : (⟨_, [], none⟩ : Ret) = r
 obtain ⟨ea, hea⟩ := nm (row fI l)
 obtain ⟨eb, heb⟩ := nm (row fI b)
 rw [← hea, ← heb]
 refine fix_fn2 (fn := ir287) tb_287 rfl rfl (by decide) rfl ?_; intro Q hQ; simp only [shutArgs, shutS, List.map_cons, List.map_nil, ir287, shut_in h0, shut_in h1, List.head?_nil, reduceCtorEq, if_false, sExt, sHello, sAnswer, sEdit, sDeal, sBox, sDialed, sKnown]
 intro add sub mul arith eq ne lt le gt ge neg conv mn mx not beq len at' ln bd cut app allS isNil mks set o hP F ho
 have la := F.len_at hea
 cbv
 refine loop_ind2 hP (σ := List Int × List Int × List (List V) × Int × Option (Int)) (fun s => match s.2.2.2.2 with | none => [(0, R ea .sh), (1, R eb .sh), (4, R [] .nl), (5, R s.2.2.1 (.ow false)), (9, R ea .sh), (10, I (len ea)), (11, I s.2.2.2.1)] | some j => [(0, R ea .sh), (1, R eb .sh), (4, R [] .nl), (5, R s.2.2.1 (.ow false)), (7, I j), (9, R ea .sh), (10, I (len ea)), (11, I s.2.2.2.1)]) (fun s => At s.2.2.2.1 s.2.1.length ∧ l = s.2.1 ++ s.1 ∧ s.2.2.1 = row fI (sel (notIn b) idI s.2.1)) (fun s => s.1.length) (l, [], [], 0, none) rfl ⟨rfl, rfl, rfl⟩ ?_
 intro c1 Q1 hc1 hQ1
 rintro ⟨suf, pre, eo, i, j⟩ ⟨hi, hl', hb⟩ ih
 simp only at hi hl' hb ih
 rcases j with _ | _
 all_goals
  cbv
  cases suf with
  | nil =>
   rw [F.lt_f hi la (by simp [hl'])]; cbv
   rw [hQ1]; cbv
   rw [hQ]; cbv
   rw [← hr, het, hb, hl', List.append_nil]
  | cons x suf =>
   obtain ⟨ix, hix⟩ := nm (pre.length * 1)
   have hpre : pre.length ≤ 1073741824 := by rw [hl'] at hl; simp at hl; omega
   have hs : (sel (notIn b) idI pre).length ≤ pre.length := sel_len
   have hi' : At (add .i64 i 1) (pre ++ [x]).length := at_len (F.inc hi (by omega)) (by simp)
   have hl2 : l = (pre ++ [x]) ++ suf := by rw [hl']; simp
   have hmem : x ∈ l := by rw [hl']; simp
   have p0 : at' 1 ea i = some (ix, [.int .i64 x]) := by rw [hix]; exact F.get hi hea hl' (fun _ => rfl) (by decide)
   obtain ⟨v, hv⟩ := nm (hasI b x)
   have hP : notIn b x = !v := by rw [hv]; rfl
   have c2 : o 302 [R eb (.sp 0 0), I x] = some ⟨[B v], [], none⟩ := by rw [ho, hv, heb]; exact ok302 _ _ (by omega) rfl
   rw [F.lt_t hi la (by simp [hl'])]; cbv
   rw [p0]; cbv
   rw [c2]; cbv
   refine both (fun d => ?_) (fun d => ?_) <;> rw [d] <;> cbv
   ·rw [show allS [[.int .i64 x]] = true by rw [F.allS]; rfl]; cbv
    obtain ⟨eo', heo'⟩ := nm (row fI (sel (notIn b) idI pre ++ [idI x]))
    rw [show app 1 eo [[.int .i64 x]] = some eo' by rw [heo']; exact F.push hb (fun _ => rfl) rfl (by omega)]; cbv
    refine ih (suf, pre ++ [x], eo', add .i64 i 1, some x) ⟨hi', hl2, by simp only; rw [heo', sel_t (by rw [hP, F.not_t d]; rfl)]⟩ (by simp)
   ·refine ih (suf, pre ++ [x], eo, add .i64 i 1, some x) ⟨hi', hl2, by simp only; rw [hb, sel_f (by rw [hP, F.not_f d]; rfl)]⟩ (by simp)
def inB (n : Int) : Bool := inR n 0 255
def thou (n : Int) : Int := 1000 + n
def tags (l : List Ext) : List Int := sel yesE Ext.tag l
theorem tags_map (l : List Ext) : tags l = l.map Ext.tag := by unfold tags sel; rw [show l.filter yesE = l from List.filter_eq_self.2 (fun _ _ => rfl)]
theorem hasI_tags (l : List Ext) (t : Int) : hasI (tags l) t = l.any (tagP t) := by
 rw [tags_map]; unfold hasI; rw [List.any_map]; rfl
theorem extOf_neg (l : List Ext) (t : Int) : decide (extOf l t < 0) = !hasI (tags l) t := by
 have h1 : decide (0 ≤ extOf l t) = l.any (tagP t) := ixOf_ge (tagP t) l 0 (by decide)
 rw [hasI_tags, ← h1]
 by_cases q : extOf l t < 0
 ·simp [q]
 ·simp [q]; omega
theorem givenV_eq (h x : Hello) : givenV h x = sel (notIn x.versions) idI h.versions ++ sel inB thou (sel (notIn (tags x.exts)) idI (tags h.exts)) := by
 unfold givenV
 congr 1
 rw [sel_idI, tags_map h.exts]
 induction h.exts with
 | nil => rfl
 | cons y l ih =>
  rw [show sel (gaP x) gaF (y :: l) = (if gaP x y = true then [gaF y] else []) ++ sel (gaP x) gaF l by unfold sel; rw [List.filter_cons]; split <;> simp, ih]
  rw [List.map_cons, List.filter_cons]
  have hg : gaP x y = (notIn (tags x.exts) y.tag && inB y.tag) := by unfold gaP notIn inB; rw [extOf_neg]
  rw [hg]
  cases h1 : notIn (tags x.exts) y.tag with
  | false => simp
  | true =>
   rw [if_pos rfl]
   unfold sel
   rw [List.filter_cons]
   cases h2 : inB y.tag with
   | false => simp
   | true => simp [gaF, thou]
theorem ok150 (h x : Hello) (a1 : h.versions.length ≤ 1048576) (a2 : x.versions.length ≤ 1048576) (a3 : h.exts.length ≤ 1048576) (a4 : x.exts.length ≤ 1048576) {f0 f1 f2 f3 : Fl} (q0 : inFl f0 = true) (q1 : inFl f1 = true) (q2 : inFl f2 = true) (q3 : inFl f3 = true) : fix Tb md 150 [sHello (row fI h.versions) (row fExt h.exts) f0 f1, sHello (row fI x.versions) (row fExt x.exts) f2 f3] = some ⟨[R (row fI (givenV h x)) (.ow false)], [], none⟩ := by
 obtain ⟨et, het⟩ := nm (row fI (givenV h x))
 rw [← het]
 generalize hr : (⟨_, [], none⟩ : Ret) = r
 obtain ⟨dv, hdv⟩ := nm (row fI h.versions)
 obtain ⟨dx, hdx⟩ := nm (row fExt h.exts)
 obtain ⟨ev, hev⟩ := nm (row fI x.versions)
 obtain ⟨ex, hex⟩ := nm (row fExt x.exts)
 rw [← hdv, ← hdx, ← hev, ← hex]
 obtain ⟨W, hW⟩ := nm (sel (notIn x.versions) idI h.versions)
 obtain ⟨Z, hZ⟩ := nm (sel (notIn (tags x.exts)) idI (tags h.exts))
 obtain ⟨ew, hew⟩ := nm (row fI W)
 obtain ⟨ez, hez⟩ := nm (row fI Z)
 obtain ⟨th, hth⟩ := nm (row fI (tags h.exts))
 obtain ⟨tx, htx⟩ := nm (row fI (tags x.exts))
 have hWl : W.length ≤ 1048576 := by rw [hW]; exact Nat.le_trans sel_len a1
 have htl : (tags h.exts).length ≤ 1048576 := Nat.le_trans sel_len a3
 have htx' : (tags x.exts).length ≤ 1048576 := Nat.le_trans sel_len a4
 have hZl : Z.length ≤ 1048576 := by rw [hZ]; exact Nat.le_trans sel_len htl
 refine fix_fn2 (fn := ir150) tb_150 rfl rfl (by decide) rfl ?_; intro Q hQ; simp only [shutArgs, shutS, List.map_cons, List.map_nil, ir150, shut_in q0, shut_in q1, shut_in q2, shut_in q3, List.head?_nil, reduceCtorEq, if_false, sExt, sHello, sAnswer, sEdit, sDeal, sBox, sDialed, sKnown]
 intro add sub mul arith eq ne lt le gt ge neg conv mn mx not beq len at' ln bd cut app allS isNil mks set o hP F ho
 have lz := F.len_at hez
 have c1 : o 287 [R dv (.sp 0 0), R ev (.sp 1 0)] = some ⟨[R ew (.ow false)], [], none⟩ := by rw [ho, hew, hW, hdv, hev]; exact ok287 _ _ (by omega) (by omega) rfl rfl
 have c2 : o 179 [R dx (.sp 0 0)] = some ⟨[R th (.ow false)], [], none⟩ := by rw [ho, hth, hdx]; exact ok179 _ (by omega) rfl
 have c3 : o 179 [R ex (.sp 0 0)] = some ⟨[R tx (.ow false)], [], none⟩ := by rw [ho, htx, hex]; exact ok179 _ (by omega) rfl
 have c4 : o 287 [R th (.sp 0 0), R tx (.sp 1 0)] = some ⟨[R ez (.ow false)], [], none⟩ := by rw [ho, hez, hZ, hth, htx]; exact ok287 _ _ (by omega) (by omega) rfl rfl
 cbv
 rw [c1]; cbv
 rw [c2]; cbv
 rw [c3]; cbv
 rw [c4]; cbv
 refine loop_ind2 hP (σ := List Int × List Int × List (List V) × Int × Option Int) (fun s => match s.2.2.2.2 with
  | none => [(0, sHello dv dx .sh .sh), (1, sHello ev ex .sh .sh), (2, ⟨.ptr 36 0, []⟩), (3, ⟨.ptr 37 0, []⟩), (4, R [] .nl), (5, R s.2.2.1 (.ow false)), (19, R ez (.ow false)), (20, I (len ez)), (21, I s.2.2.2.1), (36, ⟨.box (), [⟨.row () dv, .sh⟩, ⟨.row () dx, .sh⟩]⟩), (37, ⟨.box (), [⟨.row () ev, .sh⟩, ⟨.row () ex, .sh⟩]⟩)]
  | some j => [(0, sHello dv dx .sh .sh), (1, sHello ev ex .sh .sh), (2, ⟨.ptr 36 0, []⟩), (3, ⟨.ptr 37 0, []⟩), (4, R [] .nl), (5, R s.2.2.1 (.ow false)), (7, I j), (19, R ez (.ow false)), (20, I (len ez)), (21, I s.2.2.2.1), (36, ⟨.box (), [⟨.row () dv, .sh⟩, ⟨.row () dx, .sh⟩]⟩), (37, ⟨.box (), [⟨.row () ev, .sh⟩, ⟨.row () ex, .sh⟩]⟩)]) (fun s => At s.2.2.2.1 s.2.1.length ∧ Z = s.2.1 ++ s.1 ∧ s.2.2.1 = row fI (W ++ sel inB thou s.2.1)) (fun s => s.1.length) (Z, [], ew, 0, none) rfl ⟨rfl, rfl, by rw [hew]; simp [sel]⟩ ?_
 intro c1 Q1 hc1 hQ1
 rintro ⟨suf, pre, eo, i, j⟩ ⟨hi, hl', hb⟩ ih
 simp only at hi hl' hb ih
 rcases j with _ | _
 all_goals
  cbv
  cases suf with
  | nil =>
   rw [F.lt_f hi lz (by simp [hl'])]; cbv
   rw [hQ1]; cbv
   rw [hQ]; cbv
   rw [← hr, het, hb, givenV_eq, ← hZ, hl', List.append_nil, hW]
  | cons y suf =>
   obtain ⟨ix, hix⟩ := nm (pre.length * 1)
   have hpre : pre.length ≤ 1048576 := by rw [hl'] at hZl; simp at hZl; omega
   have hs : (sel inB thou pre).length ≤ pre.length := sel_len
   have hi' : At (add .i64 i 1) (pre ++ [y]).length := at_len (F.inc hi (by omega)) (by simp)
   have hl2 : Z = (pre ++ [y]) ++ suf := by rw [hl']; simp
   have p0 : at' 1 ez i = some (ix, [.int .i64 y]) := by rw [hix]; exact F.get hi hez hl' (fun _ => rfl) (by decide)
   obtain ⟨b2, hb2⟩ := nm (inB y)
   have c5 : o 232 [I y, I 0, I 255] = some ⟨[B b2], [], none⟩ := by rw [ho, hb2]; exact ok232 ..
   obtain ⟨eo', heo'⟩ := nm (row fI (W ++ sel inB thou pre ++ [thou y]))
   have q1 : b2 = true → app 1 eo [[.int .i64 (add .i64 1000 y)]] = some eo' := by
    intro q
    rw [hb2] at q
    simp [inB, inR] at q
    rw [show add .i64 1000 y = thou y by rw [F.add, wrap64 (by omega) (by omega)]; rfl, heo']
    exact F.push hb (fun _ => rfl) rfl (by rw [List.length_append]; omega)
   have q2 : allS [[.int .i64 (add .i64 1000 y)]] = true := by rw [F.allS]; rfl
   rw [F.lt_t hi lz (by simp [hl'])]; cbv
   rw [p0]; cbv
   rw [c5]; cbv
   refine both (fun d2 => ?_) (fun d2 => ?_) <;> rw [d2] <;> cbv
   ·rw [q2]; cbv
    rw [q1 d2]; cbv
    refine ih (suf, pre ++ [y], eo', add .i64 i 1, some y) ⟨hi', hl2, by simp only; rw [heo', sel_t (by rw [← hb2, d2])]; simp⟩ (by simp)
   ·refine ih (suf, pre ++ [y], eo, add .i64 i 1, some y) ⟨hi', hl2, by simp only; rw [hb, sel_f (by rw [← hb2, d2])]⟩ (by simp)
theorem ok229 (a b : List Int) (hl : a.length ≤ 1099511627776) {f0 f1 : Fl} (h0 : inFl f0 = true) (h1 : inFl f1 = true) : fix Tb md 229 [R (row fI a) f0, R (row fI b) f1] = some ⟨[B (decide (a = b))], [], none⟩ := by
 refine fix_fn (fn := ir229) tb_229 rfl rfl (by decide) rfl ?_; simp only [shutArgs, shutS, List.map_cons, List.map_nil, ir229, shut_in h0, shut_in h1, List.head?_nil, reduceCtorEq, if_false, sExt, sHello, sAnswer, sEdit, sDeal, sBox, sDialed, sKnown]
 generalize hr : (⟨_, [], none⟩ : Ret) = r
 obtain ⟨ea, hea⟩ := nm (row fI a)
 obtain ⟨eb, heb⟩ := nm (row fI b)
 rw [← hea, ← heb]
 intro add sub mul arith eq ne lt le gt ge neg conv mn mx not beq len at' ln bd cut app allS isNil mks set o hP F ho
 have la := F.len_at hea
 have lb := F.len_at heb
 cbv
 by_cases hab : a.length = b.length
 ·rw [F.ne_f (by unfold At at la lb; omega)]; cbv
  refine loop_ind hP (σ := List Int × List Int × List Int × Int × Option Int) (fun s => match s.2.2.2.2 with | none => [(0, R ea .sh), (1, R eb .sh), (4, B false), (12, I (len ea)), (13, I s.2.2.2.1)] | some j => [(0, R ea .sh), (1, R eb .sh), (4, B false), (5, I j), (12, I (len ea)), (13, I s.2.2.2.1)]) (fun s => At s.2.2.2.1 s.1.length ∧ a = s.1 ++ s.2.1 ∧ b = s.1 ++ s.2.2.1) (fun s => s.2.1.length) ([], a, b, 0, none) rfl ⟨rfl, rfl, rfl⟩ ?_
  rintro ⟨pre, sa, sb, i, j⟩ ⟨hi, ha, hb⟩ ih
  simp only at hi ha hb ih
  have hlen : sa.length = sb.length := by simp [ha, hb] at hab; exact hab
  cases j <;> cbv <;> (
   match sa, sb, hlen, ha, hb with
   | [], [], _, ha, hb =>
    rw [F.lt_f hi la (by simp [ha])]; cbv
    rw [← hr]; simp [ha, hb]
   | x :: sa, y :: sb, _, ha, hb =>
    rw [F.lt_t hi la (by simp [ha])]; cbv
    obtain ⟨ix, hix⟩ := nm (pre.length * 1)
    rw [show at' 1 ea i = some (ix, [.int .i64 x]) by rw [hix]; exact F.get hi hea ha (fun _ => rfl) (by decide)]; cbv
    rw [show at' 1 eb i = some (ix, [.int .i64 y]) by rw [hix]; exact F.get hi heb hb (fun _ => rfl) (by decide)]; cbv
    by_cases hxy : x = y
    ·rw [F.ne_f hxy]; cbv
     refine ih (pre ++ [x], sa, sb, add .i64 i 1, some i) ⟨at_len (F.inc hi (by simp [ha] at hl; omega)) (by simp), by simp [ha], by simp [hb, hxy]⟩ (by simp)
    ·rw [F.ne_t hxy]; cbv
     rw [← hr]; simp [ha, hb, hxy])
 ·rw [F.ne_t (by unfold At at la lb; omega)]; cbv
  rw [← hr]
  simp
  intro e; exact hab (by rw [e])
theorem ok177 (a b : List Int) (hl : a.length ≤ 1099511627776) {f0 f1 : Fl} (h0 : inFl f0 = true) (h1 : inFl f1 = true) : fix Tb md 177 [R (row fI a) f0, R (row fI b) f1] = some ⟨[B (decide (a = b))], [], none⟩ := by
 refine fix_fn (fn := ir177) tb_177 rfl rfl (by decide) rfl ?_; simp only [shutArgs, shutS, List.map_cons, List.map_nil, ir177, shut_in h0, shut_in h1, List.head?_nil, reduceCtorEq, if_false, sExt, sHello, sAnswer, sEdit, sDeal, sBox, sDialed, sKnown]
 generalize hr : (⟨_, [], none⟩ : Ret) = r
 obtain ⟨ea, hea⟩ := nm (row fI a)
 obtain ⟨eb, heb⟩ := nm (row fI b)
 rw [← hea, ← heb]
 obtain ⟨v, hv⟩ := nm (decide (a = b))
 intro add sub mul arith eq ne lt le gt ge neg conv mn mx not beq len at' ln bd cut app allS isNil mks set o hP F ho
 have c1 : o 229 [R ea (.sp 0 0), R eb (.sp 1 0)] = some ⟨[B v], [], none⟩ := by rw [ho, hv, hea, heb]; exact ok229 _ _ hl rfl rfl
 cbv
 rw [c1]; cbv
 rw [← hr, hv]
def seedGo : List Int → Nat → Int → Int
 | [], _, h => h
 | x :: l, n, h => if n < 4000 then seedGo l (n + 1) (bitI .and (w64 (w64 (w64 (h * 137) + w64 x) + 11)) 1073741823) else h
def newC (l : List Int) : Cur := ⟨l, 0, seedGo l 0 (w64 (193017 + (l.length : Int)))⟩
theorem newC_ok {l : List Int} (h : l.length ≤ 1048576) : (newC l).Ok := ⟨Nat.zero_le _, h⟩
theorem ok246 (l : List Int) (hl : l.length ≤ 1048576) : fix Tb md 246 [R (row fU l) (.sp 0 0)] = some ⟨[sCur (row fU l) .no 0 (newC l).h], [], none⟩ := by
 obtain ⟨T, hT⟩ := nm (newC l).h
 rw [← hT]
 generalize hr : (⟨_, [], none⟩ : Ret) = r
 obtain ⟨ea, hea⟩ := nm (row fU l)
 rw [← hea] at hr ⊢
 obtain ⟨h0', hh0'⟩ := nm (w64 (193017 + (l.length : Int)))
 have hT' : seedGo l 0 h0' = T := by rw [hT, hh0']; rfl
 have h0 : inFl (.sp 0 0) = true := rfl
 refine fix_fn2 (fn := ir246) tb_246 rfl rfl (by decide) rfl ?_; intro Q hQ; simp only [shutArgs, shutS, List.map_cons, List.map_nil, ir246, shut_in h0, List.head?_nil, reduceCtorEq, if_false, sExt, sHello, sAnswer, sEdit, sDeal, sBox, sDialed, sKnown]
 intro add sub mul arith eq ne lt le gt ge neg conv mn mx not beq len at' ln bd cut app allS isNil mks set o hP F ho
 have la := F.len_at hea
 have g0 : add .i64 193017 (len ea) = h0' := by rw [F.add, hh0', la]; rfl
 cbv
 rw [g0]
 refine loop_ind2 hP (σ := List Int × List Int × Int × Int) (fun s => [(0, R ea .sh), (3, I s.2.2.1), (4, I s.2.2.2)]) (fun s => At s.2.2.2 s.2.1.length ∧ l = s.2.1 ++ s.1 ∧ seedGo s.1 s.2.1.length s.2.2.1 = T) (fun s => s.1.length) (l, [], h0', 0) rfl ⟨rfl, rfl, hT'⟩ ?_
 intro c9 Q1 hc9 hQ1
 rintro ⟨suf, pre, h, i⟩ ⟨hi, hl', hb⟩ ih
 simp only at hi hl' hb ih
 cbv
 cases suf with
 | nil =>
  have hhT : h = T := hb
  rw [F.lt_f hi la (by simp [hl'])]; cbv
  rw [hQ1]; cbv
  rw [hhT, hQ]; cbv
  exact congrArg some hr
 | cons x suf =>
  have hpl : pre.length ≤ 1048576 := by rw [hl'] at hl; simp at hl; omega
  have g1 : lt i 4000 = decide (pre.length < 4000) := F.lt_n hi (k := 4000) (m := 4000) rfl
  unfold seedGo at hb
  rw [F.lt_t hi la (by simp [hl'])]; cbv
  refine both (fun d1 => ?_) (fun d1 => ?_) <;> rw [d1] <;> cbv
  ·rw [g1, decide_eq_true_eq] at d1
   rw [if_pos d1] at hb
   obtain ⟨ix, hix⟩ := nm (pre.length * 1)
   have p0 : at' 1 ea i = some (ix, [.int .u8 x]) := by rw [hix]; exact F.get hi hea hl' (fun _ => rfl) (by decide)
   obtain ⟨h1, hh1⟩ := nm (w64 (h * 137))
   obtain ⟨y, hy⟩ := nm (w64 x)
   obtain ⟨h2, hh2⟩ := nm (w64 (h1 + y))
   obtain ⟨h3, hh3⟩ := nm (w64 (h2 + 11))
   obtain ⟨h4, hh4⟩ := nm (bitI .and h3 1073741823)
   rw [← hh1, ← hy, ← hh2, ← hh3, ← hh4] at hb
   have g2 : mul .i64 h 137 = h1 := by rw [F.mul, hh1]; rfl
   have g3 : conv .i64 x = y := by rw [F.conv, hy]; rfl
   have g4 : add .i64 h1 y = h2 := by rw [F.add, hh2]; rfl
   have g5 : add .i64 h2 11 = h3 := by rw [F.add, hh3]; rfl
   have g6 : arith .and .i64 h3 1073741823 = some (.int .i64 h4) := by rw [F.arith, hh4]; rfl
   rw [p0]; cbv
   rw [g2, g3, g4, g5, g6]; cbv
   exact ih (suf, pre ++ [x], h4, add .i64 i 1) ⟨at_len (F.inc hi (by omega)) (by simp), by rw [hl']; simp, by simpa using hb⟩ (by simp)
  ·rw [g1, decide_eq_false_iff_not] at d1
   have hhT : h = T := by rw [if_neg d1] at hb; exact hb
   rw [hQ1]; cbv
   rw [hhT, hQ]; cbv
   exact congrArg some hr
def verGo : List Int → List Int → Bool
 | _, [] => true
 | pre, x :: suf => inR x 1 9 && (match pre.getLast? with | none => true | some y => !decide (x ≤ y)) && verGo (pre ++ [x]) suf
def areVer (l : List Int) : Bool := verGo [] l && decide (0 < l.length)
theorem ok257 (l : List Int) (hl : l.length ≤ 1099511627776) {f0 : Fl} (h0 : inFl f0 = true) : fix Tb md 257 [R (row fI l) f0] = some ⟨[B (areVer l)], [], none⟩ := by
 obtain ⟨T, hT⟩ := nm (verGo [] l)
 rw [show areVer l = (T && decide (0 < l.length)) by rw [hT]; rfl]
 generalize hr : (⟨_, [], none⟩ : Ret) = r
 obtain ⟨ea, hea⟩ := nm (row fI l)
 rw [← hea]
 refine fix_fn2 (fn := ir257) tb_257 rfl rfl (by decide) rfl ?_; intro Q hQ; simp only [shutArgs, shutS, List.map_cons, List.map_nil, ir257, shut_in h0, List.head?_nil, reduceCtorEq, if_false, sExt, sHello, sAnswer, sEdit, sDeal, sBox, sDialed, sKnown]
 intro add sub mul arith eq ne lt le gt ge neg conv mn mx not beq len at' ln bd cut app allS isNil mks set o hP F ho
 have la := F.len_at hea
 have h6 : gt (len ea) 0 = decide (0 < l.length) := F.gt_n la rfl
 cbv
 refine loop_ind2 hP (σ := List Int × List Int × Int) (fun s => [(0, R ea .sh), (2, B false), (3, I s.2.2)]) (fun s => At s.2.2 s.2.1.length ∧ l = s.2.1 ++ s.1 ∧ verGo s.2.1 s.1 = T) (fun s => s.1.length) (l, [], 0) rfl ⟨rfl, rfl, hT.symm⟩ ?_
 intro c1 Q1 hc1 hQ1
 rintro ⟨suf, pre, i⟩ ⟨hi, hl', hb⟩ ih
 simp only at hi hl' hb ih
 cbv
 cases suf with
 | nil =>
  rw [F.lt_f hi la (by simp [hl'])]; cbv
  rw [hQ1]; cbv
  rw [hQ]; cbv
  rw [h6, ← hr, ← hb]; rfl
 | cons x suf =>
  obtain ⟨ix, hix⟩ := nm (pre.length * 1)
  have hpre : pre.length ≤ 1099511627776 := by rw [hl'] at hl; simp at hl; omega
  have p0 : at' 1 ea i = some (ix, [.int .i64 x]) := by rw [hix]; exact F.get hi hea hl' (fun _ => rfl) (by decide)
  obtain ⟨b1, hb1⟩ := nm (inR x 1 9)
  have c1 : o 230 [I x, I 1, I 9] = some ⟨[B b1], [], none⟩ := by rw [ho, hb1]; exact ok230 ..
  have hv0 : verGo pre (x :: suf) = (b1 && (match pre.getLast? with | none => true | some y => !decide (x ≤ y)) && verGo (pre ++ [x]) suf) := by rw [hb1]; rfl
  rw [hv0] at hb
  have hi' : At (add .i64 i 1) (pre ++ [x]).length := at_len (F.inc hi (by omega)) (by simp)
  have hl2 : l = (pre ++ [x]) ++ suf := by rw [hl']; simp
  have hg0 : gt i 0 = decide (0 < pre.length) := F.gt_n hi rfl
  rw [F.lt_t hi la (by simp [hl'])]; cbv
  rw [p0]; cbv
  rw [c1]; cbv
  refine both (fun d1 => ?_) (fun d1 => ?_) <;> rw [d1] <;> cbv
  ·rw [hQ1]; cbv
   rw [hQ]; cbv
   rw [← hr, show T = false by rw [← hb, F.not_t d1]; rfl]; rfl
  rw [F.not_f d1, Bool.true_and] at hb
  rcases List.eq_nil_or_concat pre with hp | ⟨p', y, hp⟩
  ·rw [show gt i 0 = false by rw [hg0, hp]; rfl]; cbv
   refine ih (suf, pre ++ [x], add .i64 i 1) ⟨hi', hl2, ?_⟩ (by simp)
   simp only
   rw [← hb, hp]; rfl
  ·rw [show gt i 0 = true by rw [hg0, hp]; simp]; cbv
   obtain ⟨iy, hiy⟩ := nm (p'.length * 1)
   have hi2 : At (sub .i64 i 1) p'.length := by unfold At at hi ⊢; rw [hp] at hi; simp at hi; rw [F.sub, hi, wrap64 (by omega) (by rw [hp] at hpre; simp at hpre; omega)]; omega
   rw [show at' 1 ea (sub .i64 i 1) = some (iy, [.int .i64 y]) by rw [hiy]; exact F.get hi2 hea (show l = p' ++ y :: (x :: suf) by rw [hl', hp]; simp) (fun _ => rfl) (by decide)]; cbv
   rw [p0]; cbv
   obtain ⟨u, hu⟩ := nm (decide (x ≤ y))
   rw [show ge y x = u by rw [F.ge, hu]]; cbv
   have hgl : pre.getLast? = some y := by rw [hp]; simp
   rw [hgl] at hb
   simp only at hb
   rw [← hu] at hb
   refine both (fun d3 => ?_) (fun d3 => ?_) <;> rw [d3] <;> cbv
   ·rw [hQ1]; cbv
    rw [hQ]; cbv
    rw [← hr, show T = false by rw [← hb, d3]; rfl]; rfl
   ·refine ih (suf, pre ++ [x], add .i64 i 1) ⟨hi', hl2, ?_⟩ (by simp)
    rw [← hb, d3]; simp
def comm (a b : List Int) : List Int := sel (hasI b) idI a
def bestC (a b : List Int) : Int := if areVer a && areVer b then (comm a b).getLastD 0 else 0
theorem ver_asc : ∀ (suf pre : List Int), verGo pre suf = true → (∀ y, pre.getLast? = some y → ∀ x ∈ suf, y < x) ∧ suf.Pairwise (· < ·) ∧ ∀ x ∈ suf, 1 ≤ x ∧ x ≤ 9
 | [], _, _ => ⟨by simp, .nil, by simp⟩
 | x :: suf, pre, h => by
  unfold verGo at h
  simp only [Bool.and_eq_true] at h
  obtain ⟨⟨h1, h2⟩, h3⟩ := h
  obtain ⟨i1, i2, i3⟩ := ver_asc suf _ h3
  have i1' := i1 x (by simp)
  have hx : 1 ≤ x ∧ x ≤ 9 := by unfold inR at h1; simpa using h1
  refine ⟨?_, List.pairwise_cons.2 ⟨i1', i2⟩, ?_⟩
  ·intro y hy z hz
   rw [hy] at h2
   simp only [Bool.not_eq_true', decide_eq_false_iff_not] at h2
   rcases List.mem_cons.1 hz with rfl | hz
   ·omega
   ·have := i1' z hz; omega
  ·intro z hz
   rcases List.mem_cons.1 hz with rfl | hz
   ·exact hx
   ·exact i3 z hz
theorem areVer_asc {l : List Int} (h : areVer l = true) : l.Pairwise (· < ·) ∧ ∀ x ∈ l, 1 ≤ x ∧ x ≤ 9 := by
 unfold areVer at h
 simp only [Bool.and_eq_true] at h
 exact (ver_asc l [] h.1).2
def mxI (x y : Int) : Int := if y > x then y else x
theorem mx_last : ∀ (l : List Int) (d : Int), l.Pairwise (· < ·) → (∀ x ∈ l, d < x) → l.foldl mxI d = l.getLastD d
 | [], _, _, _ => rfl
 | x :: l, d, h1, h2 => by
  rw [List.foldl_cons, show mxI d x = x by unfold mxI; rw [if_pos (h2 x (by simp))]]
  rw [mx_last l x (List.pairwise_cons.1 h1).2 (List.pairwise_cons.1 h1).1]
  cases l <;> rfl
theorem comm_asc {a b : List Int} (h : areVer a = true) : (comm a b).Pairwise (· < ·) ∧ ∀ x ∈ comm a b, 1 ≤ x ∧ x ≤ 9 := by
 obtain ⟨h1, h2⟩ := areVer_asc h
 unfold comm
 rw [sel_idI]
 exact ⟨h1.filter _, fun x hx => h2 x (List.mem_filter.1 hx).1⟩
theorem comm_max {a b : List Int} (h : areVer a = true) : (comm a b).foldl mxI 0 = (comm a b).getLastD 0 := by
 obtain ⟨h1, h2⟩ := comm_asc (b := b) h
 exact mx_last _ _ h1 fun x hx => by have := h2 x hx; omega
theorem last_split {l : List Int} (h : l ≠ []) : l = l.dropLast ++ [l.getLastD 0] := by
 rw [List.getLastD_eq_getLast?, List.getLast?_eq_some_getLast h]
 exact (List.dropLast_concat_getLast h).symm
def l4Go (n : Int) : List Int → List Int → List Int
 | pre, [] => pre ++ [n]
 | pre, x :: suf => if x < n then l4Go n (pre ++ [x]) suf else if x = n then pre ++ x :: suf else pre ++ n :: x :: suf
def l4V (l : List Int) (n : Int) : List Int := l4Go n [] l
theorem l4Go_len (n : Int) : ∀ (suf pre : List Int), (l4Go n pre suf).length ≤ pre.length + suf.length + 1
 | [], pre => by simp [l4Go]
 | x :: suf, pre => by
  unfold l4Go
  split
  ·have := l4Go_len n suf (pre ++ [x]); simp at this ⊢; omega
  ·split <;> simp <;> omega
theorem l4V_len (l : List Int) (n : Int) : (l4V l n).length ≤ l.length + 1 := by have := l4Go_len n l []; simpa [l4V] using this
theorem l4Go_perm (n : Int) : ∀ (suf pre : List Int), n ∉ suf → (l4Go n pre suf).Perm (n :: (pre ++ suf))
 | [], pre, _ => by unfold l4Go; rw [List.append_nil]; exact List.perm_append_singleton n pre
 | x :: suf, pre, h => by
  unfold l4Go
  simp only [List.mem_cons, not_or] at h
  split
  ·have := l4Go_perm n suf (pre ++ [x]) h.2
   simpa using this
  ·rw [if_neg (fun e => h.1 e.symm)]
   exact List.perm_middle
theorem l4Go_asc (n : Int) : ∀ (suf pre : List Int), (pre ++ suf).Pairwise (· < ·) → n ∉ suf → (∀ x ∈ pre, x < n) → (l4Go n pre suf).Pairwise (· < ·)
 | [], pre, h1, _, h3 => by
  unfold l4Go
  rw [List.append_nil] at h1
  rw [List.pairwise_append]
  exact ⟨h1, by simp, fun a ha b hb => by simp at hb; subst hb; exact h3 a ha⟩
 | x :: suf, pre, h1, h2, h3 => by
  unfold l4Go
  simp only [List.mem_cons, not_or] at h2
  split
  ·rename_i hx
   refine l4Go_asc n suf (pre ++ [x]) (by simpa using h1) h2.2 (fun y hy => ?_)
   rcases List.mem_append.1 hy with hy | hy
   ·exact h3 y hy
   ·simp at hy; subst hy; exact hx
  ·rename_i hx
   rw [if_neg (fun e => h2.1 e.symm)]
   rw [List.pairwise_append] at h1 ⊢
   obtain ⟨p1, p2, p3⟩ := h1
   have hnx : n < x := by have := h2.1; omega
   refine ⟨p1, List.pairwise_cons.2 ⟨fun y hy => ?_, p2⟩, fun a ha b hb => ?_⟩
   ·rcases List.mem_cons.1 hy with rfl | hy
    ·exact hnx
    ·exact Int.lt_trans hnx ((List.pairwise_cons.1 p2).1 y hy)
   ·rcases List.mem_cons.1 hb with rfl | hb
    ·exact h3 a ha
    ·exact p3 a ha b hb
theorem sortI_put {l : List Int} {n : Int} (h : areVer l = true) (hn : hasI l n = false) : sortI (l ++ [n]) = l4V l n := by
 have hm : n ∉ l := fun q => by
  unfold hasI at hn
  rw [List.any_eq_false] at hn
  exact hn n q (by simp)
 obtain ⟨h1, _⟩ := areVer_asc h
 have p1 : (l4V l n).Perm (n :: l) := by have := l4Go_perm n l [] hm; simpa [l4V] using this
 have p2 : (sortI (l ++ [n])).Perm (l ++ [n]) := List.mergeSort_perm _ _
 have s1 : (l4V l n).Pairwise (· < ·) := l4Go_asc n l [] (by simpa using h1) hm (by simp)
 have s2 : (sortI (l ++ [n])).Pairwise (fun a b => decide (a ≤ b) = true) := List.pairwise_mergeSort (fun a b c => by simp; omega) (fun a b => by simp; omega) _
 refine List.Perm.eq_of_pairwise (le := fun a b => a ≤ b) (fun a b _ _ h1 h2 => Int.le_antisymm h1 h2) (s2.imp (fun h => by simpa using h)) (s1.imp (fun h => Int.le_of_lt h)) ?_
 exact p2.trans ((List.perm_append_singleton n l).trans p1.symm)
def avOk (l : List Int) (v : Int) : Bool := areVer l && inR v 1 9 && !hasI l v
def avV (l : List Int) (v : Int) : List Int := if avOk l v then l4V l v else l
theorem avV_len (l : List Int) (v : Int) : (avV l v).length ≤ l.length + 1 := by
 unfold avV; split
 ·exact l4V_len l v
 ·omega
theorem ok345 (l : List Int) (n : Int) (hl : l.length ≤ 1073741824) {f0 : Fl} (q0 : inFl f0 = true) : fix Tb md 345 [R (row fI l) f0, I n] = some ⟨[R (row fI (l4V l n)) (.ow false)], [], none⟩ := by
 obtain ⟨T, hT⟩ := nm (l4V l n)
 rw [← hT]
 obtain ⟨et, het⟩ := nm (row fI T)
 rw [← het]
 generalize hr : (⟨_, [], none⟩ : Ret) = r
 obtain ⟨ea, hea⟩ := nm (row fI l)
 rw [← hea]
 refine fix_fn2 (fn := ir345) tb_345 rfl rfl (by decide) rfl ?_; intro Q hQ; simp only [shutArgs, shutS, List.map_cons, List.map_nil, ir345, shut_in q0, List.head?_nil, reduceCtorEq, if_false, sExt, sHello, sAnswer, sEdit, sDeal, sBox, sDialed, sKnown]
 intro add sub mul arith eq ne lt le gt ge neg conv mn mx not beq len at' ln bd cut app allS isNil mks set o hP F ho
 have la := F.len_at hea
 have p9 : allS [[.int .i64 n]] = true := by rw [F.allS]; rfl
 cbv
 refine loop_ind2 hP (σ := List Int × List Int × Int) (fun s => [(0, R ea .sh), (1, I n), (4, R [] .nl), (5, I s.2.2)]) (fun s => At s.2.2 s.2.1.length ∧ l = s.2.1 ++ s.1 ∧ l4Go n s.2.1 s.1 = T) (fun s => s.1.length) (l, [], 0) rfl ⟨rfl, rfl, hT.symm⟩ ?_
 intro c9 Q1 hc9 hQ1
 rintro ⟨suf, pre, i⟩ ⟨hi, hl', hb⟩ ih
 simp only at hi hl' hb ih
 have hpl : pre.length ≤ 1073741824 := by rw [hl'] at hl; simp at hl; omega
 obtain ⟨m, hm⟩ := nm (pre.length)
 obtain ⟨e1, he1⟩ := nm (row fI pre)
 obtain ⟨e2, he2⟩ := nm (row fI suf)
 obtain ⟨e3, he3⟩ := nm (row fI (pre ++ [n]))
 obtain ⟨e4, he4⟩ := nm (row fI (pre ++ [n] ++ suf))
 have b1 : bd (ln ea) i = some m := by rw [F.ln' hea, hm]; exact F.bd' hi (by rw [hl']; simp)
 have b2 : cut 1 ea m 0 = some e1 := by rw [F.cut' hea (fun _ => rfl), he1, hl', hm]; simp
 have b3 : cut 1 ea (ln ea) m = some e2 := by rw [F.cut' hea (fun _ => rfl), F.ln' hea, he2, hl', hm, List.take_length]; simp
 have p1 : allS e1 = true := F.scal he1 (fun _ => rfl)
 have p2 : app 1 [] e1 = some e1 := F.app_nil he1 (fun _ => rfl) (by omega)
 have p3 : app 1 e1 [[.int .i64 n]] = some e3 := by rw [he3]; exact F.push he1 (fun _ => rfl) rfl (by omega)
 have p4 : allS e2 = true := F.scal he2 (fun _ => rfl)
 have p5 : app 1 e3 e2 = some e4 := by rw [he4]; exact F.app' he3 he2 (fun _ => rfl) (by rw [hl'] at hl; simp at hl ⊢; omega)
 cbv
 cases suf with
 | nil =>
  rw [F.lt_f hi la (by simp [hl'])]; cbv
  rw [hQ1]; cbv
  rw [F.lt_f hi la (by simp [hl'])]; cbv
  rw [b1]; cbv
  rw [b2]; cbv
  rw [p1]; cbv
  rw [p2]; cbv
  rw [p9]; cbv
  rw [p3]; cbv
  rw [b1]; cbv
  rw [b3]; cbv
  rw [p4]; cbv
  rw [p5]; cbv
  rw [hQ]; cbv
  rw [← hr, het, ← hb, he4]; unfold l4Go; simp
 | cons x suf =>
  obtain ⟨ix, hix⟩ := nm (pre.length * 1)
  have p0 : at' 1 ea i = some (ix, [.int .i64 x]) := by rw [hix]; exact F.get hi hea hl' (fun _ => rfl) (by decide)
  have g1 : lt x n = decide (x < n) := F.lt ..
  have g2 : eq x n = decide (x = n) := F.eq ..
  unfold l4Go at hb
  rw [F.lt_t hi la (by simp [hl'])]; cbv
  rw [p0]; cbv
  refine both (fun d1 => ?_) (fun d1 => ?_) <;> rw [d1] <;> cbv
  ·rw [g1, decide_eq_true_eq] at d1
   rw [if_pos d1] at hb
   refine ih (suf, pre ++ [x], add .i64 i 1) ⟨at_len (F.inc hi (by omega)) (by simp), by rw [hl']; simp, hb⟩ (by simp)
  rw [hQ1]; cbv
  rw [g1, decide_eq_false_iff_not] at d1
  rw [if_neg d1] at hb
  rw [F.lt_t hi la (by simp [hl'])]; cbv
  rw [p0]; cbv
  refine both (fun d2 => ?_) (fun d2 => ?_) <;> rw [d2] <;> cbv
  ·rw [g2, decide_eq_true_eq] at d2
   rw [if_pos d2] at hb
   rw [show allS ea = true from F.scal hea (fun _ => rfl)]; cbv
   rw [F.app_nil hea (fun _ => rfl) (by omega)]; cbv
   rw [hQ]; cbv
   rw [← hr, het, ← hb, hea, hl']
  ·rw [g2, decide_eq_false_iff_not] at d2
   rw [if_neg d2] at hb
   rw [b1]; cbv
   rw [b2]; cbv
   rw [p1]; cbv
   rw [p2]; cbv
   rw [p9]; cbv
   rw [p3]; cbv
   rw [b1]; cbv
   rw [b3]; cbv
   rw [p4]; cbv
   rw [p5]; cbv
   rw [hQ]; cbv
   rw [← hr, het, ← hb, he4]; simp
theorem ok3361 (c : Cur) (q : c.Ok) : fix Tb md 3361 [sCur (row fU c.b) (.sp 0 0) c.ii c.h] = some ⟨[I (byteV c)], [], some (vCur (row fU c.b) (byteC c).ii (byteC c).h)⟩ := by
 obtain ⟨b, i, h⟩ := c
 have q1 := q.1
 have q2 := q.2
 simp only at q1 q2
 obtain ⟨h1, hh1⟩ := nm (w64 (h * 6364136223846793005))
 obtain ⟨h2, hh2⟩ := nm (w64 (h1 + 1442695040888963407))
 have hh3 : stepH h = h2 := by unfold stepH; rw [← hh1, ← hh2]
 obtain ⟨s1, hs1⟩ := nm (shrI h2 33)
 obtain ⟨s2, hs2⟩ := nm (shrI h2 47)
 obtain ⟨x1, hx1⟩ := nm (bitI .xor s1 s2)
 obtain ⟨x2, hx2⟩ := nm (bitI .and x1 255)
 have hm : mixH h2 = x2 := by unfold mixH; rw [← hs1, ← hs2, ← hx1, ← hx2]
 obtain ⟨ii, hii⟩ := nm ((i : Int))
 have r2 := and255 x1
 rw [← hx2] at r2
 suffices hmain : ∀ r, (∀ x, b[i]? = some x → (⟨[I (bitI .and (w64 (x2 + w64 x)) 255)], [], some (vCur (row fU b) (ii + 1) h2)⟩ : Ret) = r) → (b[i]? = none → (⟨[I x2], [], some (vCur (row fU b) ii h2)⟩ : Ret) = r) → fix Tb md 3361 [sCur (row fU b) (.sp 0 0) ii h] = some r by
  rw [hii] at hmain
  refine hmain _ (fun x hx => ?_) (fun hx => ?_)
  ·unfold byteV byteC; simp only [hx, hh3, hm]; simp [Cur.ii]
  ·unfold byteV byteC; simp only [hx, hh3, hm, Cur.ii]
 intro r rA rB
 obtain ⟨eb, heb⟩ := nm (row fU b)
 rw [← heb] at rA rB ⊢
 refine fix_bx (fn := ir3361) tb_3361 rfl rfl rfl (by decide) ?_; intro Q hQ; simp only [List.map_nil, ir3361]
 intro add sub mul arith eq ne lt le gt ge neg conv mn mx not beq len at' ln bd cut app allS isNil mks set o hP F ho
 have lb := F.len_at heb
 have hi : At ii i := hii
 have g1 : mul .i64 h 6364136223846793005 = h1 := by rw [F.mul, hh1]; rfl
 have g2 : add .i64 h1 1442695040888963407 = h2 := by rw [F.add, hh2]; rfl
 have g3 : arith .shr .i64 h2 33 = some (.int .i64 s1) := by rw [F.arith, hs1]; rfl
 have g4 : arith .shr .i64 h2 47 = some (.int .i64 s2) := by rw [F.arith, hs2]; rfl
 have g5 : arith .xor .i64 s1 s2 = some (.int .i64 x1) := by rw [F.arith, hx1]; rfl
 have g6 : arith .and .i64 x1 255 = some (.int .i64 x2) := by rw [F.arith, hx2]; rfl
 cbv
 rw [g1, g2]; cbv
 rw [g3]; cbv
 rw [g4]; cbv
 rw [g5]; cbv
 rw [g6]; cbv
 by_cases hlt : i < b.length
 ·obtain ⟨pre, x, suf, hb, hp⟩ : ∃ pre x suf, b = pre ++ x :: suf ∧ pre.length = i := ⟨b.take i, b[i], b.drop (i + 1), by simp, by simp; omega⟩
  have hx : b[i]? = some x := by rw [hb, ← hp]; simp
  obtain ⟨ix, hix⟩ := nm (pre.length * 1)
  have p0 : at' 1 eb ii = some (ix, [.int .u8 x]) := by rw [hix]; exact F.get (by rw [hp]; exact hi) heb hb (fun _ => rfl) (by decide)
  obtain ⟨y, hy⟩ := nm (w64 x)
  obtain ⟨x3, hx3⟩ := nm (w64 (x2 + y))
  obtain ⟨x4, hx4⟩ := nm (bitI .and x3 255)
  have g7 : conv .i64 x = y := by rw [F.conv, hy]; rfl
  have g8 : add .i64 x2 y = x3 := by rw [F.add, hx3]; rfl
  have g9 : arith .and .i64 x3 255 = some (.int .i64 x4) := by rw [F.arith, hx4]; rfl
  have hb0 : 0 ≤ ii ∧ ii ≤ 1048576 := by
   rw [hii]
   exact ⟨Int.natCast_nonneg i, Int.ofNat_le.2 (Nat.le_trans q1 q2)⟩
  have g10 : add .i64 ii 1 = ii + 1 := by rw [F.add, wrap64 (by omega) (by omega)]
  rw [F.lt_t hi lb hlt]; cbv
  rw [p0]; cbv
  rw [g7, g8]; cbv
  rw [g9]; cbv
  rw [g10, hQ]; cbv
  exact congrArg some (by rw [hx4, hx3, hy]; exact rA x hx)
 ·rw [F.lt_f hi lb (by omega)]; cbv
  rw [hQ]; cbv
  exact congrArg some (rB (List.getElem?_eq_none (by omega)))
theorem ok3317 (c : Cur) (q : c.Ok) (n : Int) (h0 : 0 < n) (h1 : n ≤ 256) : fix Tb md 3317 [sCur (row fU c.b) (.sp 0 0) c.ii c.h, I n] = some ⟨[I (belowV n c)], [], some (vCur (row fU c.b) (byteC c).ii (byteC c).h)⟩ := by
 have k1 := ok3361 c q
 obtain ⟨x, hx⟩ := nm (byteV c)
 obtain ⟨y, hy⟩ := nm (belowV n c)
 have hy2 : y = Int.tmod x n := by rw [hy, hx]; rfl
 obtain ⟨i, hi⟩ := nm (c.ii)
 obtain ⟨h, hh⟩ := nm (c.h)
 obtain ⟨i', hi'⟩ := nm ((byteC c).ii)
 obtain ⟨h', hh'⟩ := nm ((byteC c).h)
 rw [← hx, ← hi, ← hh, ← hi', ← hh'] at k1
 rw [← hy, ← hi, ← hh, ← hi', ← hh']
 generalize hr : (⟨_, [], some _⟩ : Ret) = r
 obtain ⟨eb, heb⟩ := nm (row fU c.b)
 rw [← heb] at k1 hr ⊢
 refine fix_bx (fn := ir3317) tb_3317 rfl rfl rfl (by decide) ?_; intro Q hQ; simp only [List.map_cons, List.map_nil, ir3317]
 intro add sub mul arith eq ne lt le gt ge neg conv mn mx not beq len at' ln bd cut app allS isNil mks set o hP F ho
 have g1 : le n 0 = false := by rw [F.le]; simp; omega
 have g2 : le n 256 = true := by rw [F.le]; simp; omega
 have g3 : arith .rem .i64 x n = some (.int .i64 y) := by rw [F.arith, hy2]; show (if n = 0 then none else some (VA.int .i64 (x.tmod n))) = _; rw [if_neg (by omega)]
 rw [← ho] at k1
 cbv
 rw [g1]; cbv
 rw [g2]; cbv
 rw [k1]; cbv
 rw [g3]; cbv
 rw [hQ]; cbv
 exact congrArg some hr
end Go.Vm
