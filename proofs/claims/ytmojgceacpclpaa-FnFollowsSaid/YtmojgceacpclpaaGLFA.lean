/- What the functions answer. -/
import Derived.Test.YtmojgceacpclpaaGLTab
set_option maxHeartbeats 4000000
set_option maxRecDepth 10000
set_option linter.unusedVariables false
set_option linter.unusedSimpArgs false
namespace Go.Vm
theorem share2 {P G C : Prop} (main : (P → G) → C) (proof : P → G) : C := main proof
theorem fix_bx {T : Nat → Option FnIr} {md : Modes} {g : Nat} {fn : FnIr} (hT : T g = some fn) (hsp : fn.sp = 0) (hm : fn.modes = [.mbox]) {cs : List (Cell Unit)} {rest : List SU} (hlen : rest.length + 1 = fn.np) (hle : fn.np ≤ fn.ntmps) {r : Ret}
  (hw : ∀ Q, Q = finQ fn (⟨.box (), cs⟩ :: rest.map shutS) (2 * fn.ntmps + 2) r → Sym (fun P O => wpc P O md fn.ntmps (2 * fn.ntmps + 2) fn.body (enumS 0 (⟨.ptr (lockS fn.ntmps + 1) 0, []⟩ :: rest.map shutS) ++ [(lockS fn.ntmps + 1, ⟨.box (), cs⟩)]) Q) (fix T md)) : fix T md g (⟨.box (), cs⟩ :: rest) = some r := by
 have hs : shutArgs fn.modes (⟨.box (), cs⟩ :: rest) = ⟨.box (), cs⟩ :: rest.map shutS := by rw [hm]; rfl
 refine fix_wp hT hsp (by simpa using hlen) hle (m := enumS 0 (⟨.ptr (lockS fn.ntmps + 1) 0, []⟩ :: rest.map shutS) ++ [(lockS fn.ntmps + 1, ⟨.box (), cs⟩)]) ?_ ?_
 ·rw [hs]; exact start_box (by simpa using hlen) hle
 ·rw [hs]; exact (hw _ rfl).at
structure Cur where
 b : List Int
 i : Nat
 h : Int
def Cur.ii (c : Cur) : Int := (c.i : Int)
def Cur.Ok (c : Cur) : Prop := c.i ≤ c.b.length ∧ c.b.length ≤ 1048576
def fU (n : Int) : List V := [.int .u8 n]
abbrev sCur (eb : List (List V)) (f : Fl) (i h : Int) : SU := ⟨.box (), [⟨.row () eb, f⟩, ⟨.int .i64 i, .sc⟩, ⟨.int .i64 h, .sc⟩]⟩
abbrev vCur (eb : List (List V)) (i h : Int) : List V := [.row () eb, .int .i64 i, .int .i64 h]
def w64 (n : Int) : Int := IntKind.wrap .i64 n
def shrI (x : Int) (k : Nat) : Int := x.fdiv (2 ^ k)
def bitI (op : BinOp) (x y : Int) : Int := match binInt op .i64 x y with | some (.int _ n) => n | _ => 0
def stepH (h : Int) : Int := w64 (w64 (h * 6364136223846793005) + 1442695040888963407)
def mixH (h : Int) : Int := bitI .and (bitI .xor (shrI h 33) (shrI h 47)) 255
def byteV (c : Cur) : Int := match c.b[c.i]? with | some x => bitI .and (w64 (mixH (stepH c.h) + w64 x)) 255 | none => mixH (stepH c.h)
def byteC (c : Cur) : Cur := ⟨c.b, match c.b[c.i]? with | some _ => c.i + 1 | none => c.i, stepH c.h⟩
theorem byteC_ok {c : Cur} (q : c.Ok) : (byteC c).Ok := by
 unfold Cur.Ok byteC at *
 simp only
 split
 ·rename_i x hx
  have := (List.getElem?_eq_some_iff.1 hx).1
  omega
 ·exact q
theorem and255 (x : Int) : 0 ≤ bitI .and x 255 ∧ bitI .and x 255 ≤ 255 := by
 have h1 : (BitVec.ofInt 64 x &&& BitVec.ofInt 64 255).toNat ≤ 255 := by
  rw [BitVec.toNat_and]
  exact Nat.and_le_right
 have e : bitI .and x 255 = IntKind.wrap .i64 ((BitVec.ofInt 64 x &&& BitVec.ofInt 64 255).toNat) := rfl
 rw [e, wrap64 (by omega) (by omega)]
 omega
theorem byteV_in (c : Cur) : 0 ≤ byteV c ∧ byteV c ≤ 255 := by
 unfold byteV; split
 ·exact and255 _
 ·exact and255 _
def belowV (n : Int) (c : Cur) : Int := Int.tmod (byteV c) n
theorem belowV_in {n : Int} {c : Cur} (h : 0 < n) : 0 ≤ belowV n c ∧ belowV n c < n := by
 have := byteV_in c
 unfold belowV
 rw [Int.tmod_eq_emod_of_nonneg this.1]
 exact ⟨Int.emod_nonneg _ (by omega), Int.emod_lt_of_pos _ h⟩
def onceV (n : Int) (c : Cur) : Bool := decide (belowV n c = 0)
def intV (l : List Int) (c : Cur) : Int := l.getD (belowV l.length c).toNat 0
theorem intV_mem {l : List Int} {c : Cur} (h : l ≠ []) : intV l c ∈ l := by
 have h0 : 0 < l.length := List.length_pos_iff.2 h
 have := belowV_in (n := l.length) (c := c) (by omega)
 unfold intV
 rw [List.getD_eq_getElem?_getD, List.getElem?_eq_getElem (by omega)]
 exact List.getElem_mem _
theorem ok108 (l : List Int) {f0 : Fl} (q0 : inFl f0 = true) : fix Tb md 108 [R (row fU l) f0] = some ⟨[B (decide (1048576 < l.length))], [], none⟩ := by
 obtain ⟨v, hv⟩ := nm (decide (1048576 < l.length))
 rw [← hv]
 generalize hr : (⟨_, [], none⟩ : Ret) = r
 obtain ⟨ea, hea⟩ := nm (row fU l)
 rw [← hea]
 refine fix_fn2 (fn := ir108) tb_108 rfl rfl (by decide) rfl ?_; intro Q hQ; simp only [shutArgs, shutS, List.map_cons, List.map_nil, ir108, shut_in q0, List.head?_nil, reduceCtorEq, if_false, sExt, sHello, sAnswer, sEdit, sDeal, sBox, sDialed, sKnown]
 intro add sub mul arith eq ne lt le gt ge neg conv mn mx not beq len at' ln bd cut app allS isNil mks set o hP F ho
 have la := F.len_at hea
 have g1 : gt (len ea) 1048576 = v := by rw [hv]; exact F.gt_n la (k := 1048576) (m := 1048576) rfl
 cbv
 rw [g1, hQ]; cbv
 exact congrArg some hr
def seedGo : List Int → Nat → Int → Int
 | [], _, h => h
 | x :: l, n, h => if n < 4000 then seedGo l (n + 1) (bitI .and (w64 (w64 (w64 (h * 137) + w64 x) + 11)) 1073741823) else h
def newC (l : List Int) : Cur := ⟨l, 0, seedGo l 0 (w64 (193017 + (l.length : Int)))⟩
theorem newC_ok {l : List Int} (h : l.length ≤ 1048576) : (newC l).Ok := ⟨Nat.zero_le _, h⟩
theorem ok246 (l : List Int) (hl : l.length ≤ 1048576) : fix Tb md 246 [R (row fU l) (.sp 0 0)] = some ⟨[sCur (row fU l) .no 0 (newC l).h], [], none⟩ := by
 obtain ⟨T, hT⟩ := nm (newC l).h
 rw [← hT]
 generalize hr : (⟨_, [], none⟩ : Ret) = r
 obtain ⟨ea, hea⟩ := nm (row fU l)
 rw [← hea] at hr ⊢
 obtain ⟨h0', hh0'⟩ := nm (w64 (193017 + (l.length : Int)))
 have hT' : seedGo l 0 h0' = T := by rw [hT, hh0']; rfl
 have h0 : inFl (.sp 0 0) = true := rfl
 refine fix_fn2 (fn := ir246) tb_246 rfl rfl (by decide) rfl ?_; intro Q hQ; simp only [shutArgs, shutS, List.map_cons, List.map_nil, ir246, shut_in h0, List.head?_nil, reduceCtorEq, if_false, sExt, sHello, sAnswer, sEdit, sDeal, sBox, sDialed, sKnown]
 intro add sub mul arith eq ne lt le gt ge neg conv mn mx not beq len at' ln bd cut app allS isNil mks set o hP F ho
 have la := F.len_at hea
 have g0 : add .i64 193017 (len ea) = h0' := by rw [F.add, hh0', la]; rfl
 cbv
 rw [g0]
 refine loop_ind2 hP (σ := List Int × List Int × Int × Int) (fun s => [(0, R ea .sh), (3, I s.2.2.1), (4, I s.2.2.2)]) (fun s => At s.2.2.2 s.2.1.length ∧ l = s.2.1 ++ s.1 ∧ seedGo s.1 s.2.1.length s.2.2.1 = T) (fun s => s.1.length) (l, [], h0', 0) rfl ⟨rfl, rfl, hT'⟩ ?_
 intro c9 Q1 hc9 hQ1
 rintro ⟨suf, pre, h, i⟩ ⟨hi, hl', hb⟩ ih
 simp only at hi hl' hb ih
 cbv
 cases suf with
 | nil =>
  have hhT : h = T := hb
  rw [F.lt_f hi la (by simp [hl'])]; cbv
  rw [hQ1]; cbv
  rw [hhT, hQ]; cbv
  exact congrArg some hr
 | cons x suf =>
  have hpl : pre.length ≤ 1048576 := by rw [hl'] at hl; simp at hl; omega
  have g1 : lt i 4000 = decide (pre.length < 4000) := F.lt_n hi (k := 4000) (m := 4000) rfl
  unfold seedGo at hb
  rw [F.lt_t hi la (by simp [hl'])]; cbv
  refine both (fun d1 => ?_) (fun d1 => ?_) <;> rw [d1] <;> cbv
  ·rw [g1, decide_eq_true_eq] at d1
   rw [if_pos d1] at hb
   obtain ⟨ix, hix⟩ := nm (pre.length * 1)
   have p0 : at' 1 ea i = some (ix, [.int .u8 x]) := by rw [hix]; exact F.get hi hea hl' (fun _ => rfl) (by decide)
   obtain ⟨h1, hh1⟩ := nm (w64 (h * 137))
   obtain ⟨y, hy⟩ := nm (w64 x)
   obtain ⟨h2, hh2⟩ := nm (w64 (h1 + y))
   obtain ⟨h3, hh3⟩ := nm (w64 (h2 + 11))
   obtain ⟨h4, hh4⟩ := nm (bitI .and h3 1073741823)
   rw [← hh1, ← hy, ← hh2, ← hh3, ← hh4] at hb
   have g2 : mul .i64 h 137 = h1 := by rw [F.mul, hh1]; rfl
   have g3 : conv .i64 x = y := by rw [F.conv, hy]; rfl
   have g4 : add .i64 h1 y = h2 := by rw [F.add, hh2]; rfl
   have g5 : add .i64 h2 11 = h3 := by rw [F.add, hh3]; rfl
   have g6 : arith .and .i64 h3 1073741823 = some (.int .i64 h4) := by rw [F.arith, hh4]; rfl
   rw [p0]; cbv
   rw [g2, g3, g4, g5, g6]; cbv
   exact ih (suf, pre ++ [x], h4, add .i64 i 1) ⟨at_len (F.inc hi (by omega)) (by simp), by rw [hl']; simp, by simpa using hb⟩ (by simp)
  ·rw [g1, decide_eq_false_iff_not] at d1
   have hhT : h = T := by rw [if_neg d1] at hb; exact hb
   rw [hQ1]; cbv
   rw [hhT, hQ]; cbv
   exact congrArg some hr
def ixOf {α : Type} (p : α → Bool) : List α → Int → Int
 | [], _ => -1
 | x :: l, i => if p x = true then i else ixOf p l (i + 1)
theorem ixOf_ge {α : Type} (p : α → Bool) : ∀ (l : List α) (i : Int), 0 ≤ i → decide (0 ≤ ixOf p l i) = l.any p
 | [], i, h => by simp [ixOf]
 | x :: l, i, h => by
  unfold ixOf
  rw [List.any_cons]
  by_cases hx : p x = true
  ·rw [if_pos hx, hx]; simpa using h
  ·rw [if_neg hx, ixOf_ge p l (i + 1) (by omega)]; simp at hx; simp [hx]
theorem ixOf_none {α : Type} {p : α → Bool} : ∀ {l : List α} {i : Int}, l.any p = false → ixOf p l i = -1
 | [], i, _ => rfl
 | x :: l, i, h => by
  rw [List.any_cons, Bool.or_eq_false_iff] at h
  unfold ixOf
  rw [if_neg (by rw [h.1]; decide), ixOf_none h.2]
theorem ok341_0 (g : Nat) (hg : md g = []) (p : (List Int) → Bool) (l : List (List Int)) (hl : l.length ≤ 1099511627776) (hp : ∀ x ∈ l, fix Tb md g [R (row fI x) (.sp 0 0)] = some ⟨[B (p x)], [], none⟩) {f0 : Fl} (h0 : inFl f0 = true) :
  fix Tb md 341 [R (row fR l) f0, ⟨.val, [⟨.fn g [], .sh⟩]⟩] = some ⟨[I (ixOf p l 0)], [], none⟩ := by
 generalize hm : md = m at hg hp ⊢
 refine fix_fn (fn := ir341) tb_341 rfl rfl (by decide) rfl ?_; simp only [shutArgs, shutS, List.map_cons, List.map_nil, ir341, shut_in h0, List.head?_nil, reduceCtorEq, if_false, sExt, sHello, sAnswer, sEdit, sDeal, sBox, sDialed, sKnown]
 generalize hr : (⟨_, [], none⟩ : Ret) = r
 obtain ⟨ea, hea⟩ := nm (row fR l)
 rw [← hea]
 intro add sub mul arith eq ne lt le gt ge neg conv mn mx not beq len at' ln bd cut app allS isNil mks set o hP F ho
 have la := F.len_at hea
 cbv
 refine loop_ind hP (σ := List (List Int) × List (List Int) × Int × Option Int) (fun s => match s.2.2.2 with | none => [(0, R ea .sh), (1, ⟨.val, [⟨.fn g [], .sh⟩]⟩), (4, I 0), (7, I (len ea)), (8, I s.2.2.1)] | some j => [(0, R ea .sh), (1, ⟨.val, [⟨.fn g [], .sh⟩]⟩), (4, I 0), (5, I j), (7, I (len ea)), (8, I s.2.2.1)])
  (fun s => At s.2.2.1 s.2.1.length ∧ l = s.2.1 ++ s.1 ∧ ixOf p s.1 (s.2.1.length : Int) = ixOf p l 0) (fun s => s.1.length) (l, [], 0, none) rfl ⟨rfl, rfl, rfl⟩ ?_
 rintro ⟨suf, pre, i, j⟩ ⟨hi, hl', hx⟩ ih
 simp only at hi hl' hx ih
 have hi' : i = (pre.length : Int) := hi
 rw [← hi'] at hx
 cases j <;> cbv <;> (
  cases suf with
  | nil =>
   rw [F.lt_f hi la (by simp [hl'])]; cbv
   rw [← hr, ← hx]; rfl
  | cons x suf =>
   rw [F.lt_t hi la (by simp [hl'])]; cbv
   obtain ⟨e1, he1⟩ := nm (row fI x)
   obtain ⟨ix, hix⟩ := nm (pre.length * 1)
   rw [show at' 1 ea i = some (ix, [.row () e1]) by rw [hix, he1]; exact F.get hi hea hl' (fun _ => rfl) (by decide)]; cbv
   obtain ⟨v, hv⟩ := nm (p x)
   have c1 : o g [R e1 (.sp 0 0)] = some ⟨[B v], [], none⟩ := by rw [ho, hv, he1]; exact hp x (by rw [hl']; simp)
   rw [hg]; cbv
   rw [c1]; cbv
   have hx1 : ixOf p (x :: suf) i = if p x = true then i else ixOf p suf (i + 1) := rfl
   rw [hx1] at hx
   refine both (fun c => ?_) (fun c => ?_) <;> rw [c] <;> cbv
   ·rw [← hv, if_pos c] at hx
    rw [← hr, ← hx]
   ·rw [← hv, if_neg (by simp [c])] at hx
    refine ih (suf, pre ++ [x], add .i64 i 1, some i) ⟨at_len (F.inc hi (by simp [hl'] at hl; omega)) (by simp), by simp [hl'], ?_⟩ (by simp)
    rw [← hx, hi']
    simp)
theorem ok341_1 (g : Nat) (hg : md g = []) (k0 : V) (p : (List Int) → Bool) (l : List (List Int)) (hl : l.length ≤ 1099511627776) (hp : ∀ x ∈ l, fix Tb md g [R (row fI x) (.sp 0 0), ⟨.val, [⟨k0, .sh⟩]⟩] = some ⟨[B (p x)], [], none⟩) {f0 : Fl} (h0 : inFl f0 = true) :
  fix Tb md 341 [R (row fR l) f0, ⟨.val, [⟨.fn g [k0], .sh⟩]⟩] = some ⟨[I (ixOf p l 0)], [], none⟩ := by
 generalize hm : md = m at hg hp ⊢
 refine fix_fn (fn := ir341) tb_341 rfl rfl (by decide) rfl ?_; simp only [shutArgs, shutS, List.map_cons, List.map_nil, ir341, shut_in h0, List.head?_nil, reduceCtorEq, if_false, sExt, sHello, sAnswer, sEdit, sDeal, sBox, sDialed, sKnown]
 generalize hr : (⟨_, [], none⟩ : Ret) = r
 obtain ⟨ea, hea⟩ := nm (row fR l)
 rw [← hea]
 intro add sub mul arith eq ne lt le gt ge neg conv mn mx not beq len at' ln bd cut app allS isNil mks set o hP F ho
 have la := F.len_at hea
 cbv
 refine loop_ind hP (σ := List (List Int) × List (List Int) × Int × Option Int) (fun s => match s.2.2.2 with | none => [(0, R ea .sh), (1, ⟨.val, [⟨.fn g [k0], .sh⟩]⟩), (4, I 0), (7, I (len ea)), (8, I s.2.2.1)] | some j => [(0, R ea .sh), (1, ⟨.val, [⟨.fn g [k0], .sh⟩]⟩), (4, I 0), (5, I j), (7, I (len ea)), (8, I s.2.2.1)])
  (fun s => At s.2.2.1 s.2.1.length ∧ l = s.2.1 ++ s.1 ∧ ixOf p s.1 (s.2.1.length : Int) = ixOf p l 0) (fun s => s.1.length) (l, [], 0, none) rfl ⟨rfl, rfl, rfl⟩ ?_
 rintro ⟨suf, pre, i, j⟩ ⟨hi, hl', hx⟩ ih
 simp only at hi hl' hx ih
 have hi' : i = (pre.length : Int) := hi
 rw [← hi'] at hx
 cases j <;> cbv <;> (
  cases suf with
  | nil =>
   rw [F.lt_f hi la (by simp [hl'])]; cbv
   rw [← hr, ← hx]; rfl
  | cons x suf =>
   rw [F.lt_t hi la (by simp [hl'])]; cbv
   obtain ⟨e1, he1⟩ := nm (row fI x)
   obtain ⟨ix, hix⟩ := nm (pre.length * 1)
   rw [show at' 1 ea i = some (ix, [.row () e1]) by rw [hix, he1]; exact F.get hi hea hl' (fun _ => rfl) (by decide)]; cbv
   obtain ⟨v, hv⟩ := nm (p x)
   have c1 : o g [R e1 (.sp 0 0), ⟨.val, [⟨k0, .sh⟩]⟩] = some ⟨[B v], [], none⟩ := by rw [ho, hv, he1]; exact hp x (by rw [hl']; simp)
   rw [hg]; cbv
   rw [c1]; cbv
   have hx1 : ixOf p (x :: suf) i = if p x = true then i else ixOf p suf (i + 1) := rfl
   rw [hx1] at hx
   refine both (fun c => ?_) (fun c => ?_) <;> rw [c] <;> cbv
   ·rw [← hv, if_pos c] at hx
    rw [← hr, ← hx]
   ·rw [← hv, if_neg (by simp [c])] at hx
    refine ih (suf, pre ++ [x], add .i64 i 1, some i) ⟨at_len (F.inc hi (by simp [hl'] at hl; omega)) (by simp), by simp [hl'], ?_⟩ (by simp)
    rw [← hx, hi']
    simp)
theorem ok234_0 (g : Nat) (hg : md g = []) (p : (List Int) → Bool) (l : List (List Int)) (hl : l.length ≤ 1099511627776) (hp : ∀ x ∈ l, fix Tb md g [R (row fI x) (.sp 0 0)] = some ⟨[B (p x)], [], none⟩) {f0 : Fl} (h0 : inFl f0 = true) :
  fix Tb md 234 [R (row fR l) f0, ⟨.val, [⟨.fn g [], .sh⟩]⟩] = some ⟨[B (l.any p)], [], none⟩ := by
 refine fix_fn (fn := ir234) tb_234 rfl rfl (by decide) rfl ?_; simp only [shutArgs, shutS, List.map_cons, List.map_nil, ir234, shut_in h0, List.head?_nil, reduceCtorEq, if_false, sExt, sHello, sAnswer, sEdit, sDeal, sBox, sDialed, sKnown]
 generalize hr : (⟨_, [], none⟩ : Ret) = r
 obtain ⟨ea, hea⟩ := nm (row fR l)
 rw [← hea]
 obtain ⟨v, hv⟩ := nm (ixOf p l 0)
 have hv2 : decide (0 ≤ v) = l.any p := by rw [hv]; exact ixOf_ge p l 0 (by decide)
 rw [← hv2] at hr
 clear hv2
 intro add sub mul arith eq ne lt le gt ge neg conv mn mx not beq len at' ln bd cut app allS isNil mks set o hP F ho
 have c1 : o 341 [R ea (.sp 0 0), ⟨.val, [⟨.fn g [], .sh⟩]⟩] = some ⟨[I v], [], none⟩ := by rw [ho, hv, hea]; exact ok341_0 g hg p l hl hp rfl
 cbv
 rw [c1]; cbv
 rw [← hr, F.ge]
theorem ok234_1 (g : Nat) (hg : md g = []) (k0 : V) (p : (List Int) → Bool) (l : List (List Int)) (hl : l.length ≤ 1099511627776) (hp : ∀ x ∈ l, fix Tb md g [R (row fI x) (.sp 0 0), ⟨.val, [⟨k0, .sh⟩]⟩] = some ⟨[B (p x)], [], none⟩) {f0 : Fl} (h0 : inFl f0 = true) :
  fix Tb md 234 [R (row fR l) f0, ⟨.val, [⟨.fn g [k0], .sh⟩]⟩] = some ⟨[B (l.any p)], [], none⟩ := by
 refine fix_fn (fn := ir234) tb_234 rfl rfl (by decide) rfl ?_; simp only [shutArgs, shutS, List.map_cons, List.map_nil, ir234, shut_in h0, List.head?_nil, reduceCtorEq, if_false, sExt, sHello, sAnswer, sEdit, sDeal, sBox, sDialed, sKnown]
 generalize hr : (⟨_, [], none⟩ : Ret) = r
 obtain ⟨ea, hea⟩ := nm (row fR l)
 rw [← hea]
 obtain ⟨v, hv⟩ := nm (ixOf p l 0)
 have hv2 : decide (0 ≤ v) = l.any p := by rw [hv]; exact ixOf_ge p l 0 (by decide)
 rw [← hv2] at hr
 clear hv2
 intro add sub mul arith eq ne lt le gt ge neg conv mn mx not beq len at' ln bd cut app allS isNil mks set o hP F ho
 have c1 : o 341 [R ea (.sp 0 0), ⟨.val, [⟨.fn g [k0], .sh⟩]⟩] = some ⟨[I v], [], none⟩ := by rw [ho, hv, hea]; exact ok341_1 g hg k0 p l hl hp rfl
 cbv
 rw [c1]; cbv
 rw [← hr, F.ge]
theorem ok229 (a b : List Int) (hl : a.length ≤ 1099511627776) {f0 f1 : Fl} (h0 : inFl f0 = true) (h1 : inFl f1 = true) : fix Tb md 229 [R (row fI a) f0, R (row fI b) f1] = some ⟨[B (decide (a = b))], [], none⟩ := by
 refine fix_fn (fn := ir229) tb_229 rfl rfl (by decide) rfl ?_; simp only [shutArgs, shutS, List.map_cons, List.map_nil, ir229, shut_in h0, shut_in h1, List.head?_nil, reduceCtorEq, if_false, sExt, sHello, sAnswer, sEdit, sDeal, sBox, sDialed, sKnown]
 generalize hr : (⟨_, [], none⟩ : Ret) = r
 obtain ⟨ea, hea⟩ := nm (row fI a)
 obtain ⟨eb, heb⟩ := nm (row fI b)
 rw [← hea, ← heb]
 intro add sub mul arith eq ne lt le gt ge neg conv mn mx not beq len at' ln bd cut app allS isNil mks set o hP F ho
 have la := F.len_at hea
 have lb := F.len_at heb
 cbv
 by_cases hab : a.length = b.length
 ·rw [F.ne_f (by unfold At at la lb; omega)]; cbv
  refine loop_ind hP (σ := List Int × List Int × List Int × Int × Option Int) (fun s => match s.2.2.2.2 with | none => [(0, R ea .sh), (1, R eb .sh), (4, B false), (12, I (len ea)), (13, I s.2.2.2.1)] | some j => [(0, R ea .sh), (1, R eb .sh), (4, B false), (5, I j), (12, I (len ea)), (13, I s.2.2.2.1)]) (fun s => At s.2.2.2.1 s.1.length ∧ a = s.1 ++ s.2.1 ∧ b = s.1 ++ s.2.2.1) (fun s => s.2.1.length) ([], a, b, 0, none) rfl ⟨rfl, rfl, rfl⟩ ?_
  rintro ⟨pre, sa, sb, i, j⟩ ⟨hi, ha, hb⟩ ih
  simp only at hi ha hb ih
  have hlen : sa.length = sb.length := by simp [ha, hb] at hab; exact hab
  cases j <;> cbv <;> (
   match sa, sb, hlen, ha, hb with
   | [], [], _, ha, hb =>
    rw [F.lt_f hi la (by simp [ha])]; cbv
    rw [← hr]; simp [ha, hb]
   | x :: sa, y :: sb, _, ha, hb =>
    rw [F.lt_t hi la (by simp [ha])]; cbv
    obtain ⟨ix, hix⟩ := nm (pre.length * 1)
    rw [show at' 1 ea i = some (ix, [.int .i64 x]) by rw [hix]; exact F.get hi hea ha (fun _ => rfl) (by decide)]; cbv
    rw [show at' 1 eb i = some (ix, [.int .i64 y]) by rw [hix]; exact F.get hi heb hb (fun _ => rfl) (by decide)]; cbv
    by_cases hxy : x = y
    ·rw [F.ne_f hxy]; cbv
     refine ih (pre ++ [x], sa, sb, add .i64 i 1, some i) ⟨at_len (F.inc hi (by simp [ha] at hl; omega)) (by simp), by simp [ha], by simp [hb, hxy]⟩ (by simp)
    ·rw [F.ne_t hxy]; cbv
     rw [← hr]; simp [ha, hb, hxy])
 ·rw [F.ne_t (by unfold At at la lb; omega)]; cbv
  rw [← hr]
  simp
  intro e; exact hab (by rw [e])
theorem ok374 (a b : List Int) (hl : a.length ≤ 1099511627776) {f0 : Fl} (h0 : inFl f0 = true) : fix Tb md 374 [R (row fI a) f0, ⟨.val, [⟨.ptr () [.row () (row fI b)], .sh⟩]⟩] = some ⟨[B (decide (a = b))], [], none⟩ := by
 obtain ⟨v, hv⟩ := nm (decide (a = b))
 rw [← hv]
 generalize hr : (⟨_, [], none⟩ : Ret) = r
 obtain ⟨ea, hea⟩ := nm (row fI a)
 obtain ⟨eb, heb⟩ := nm (row fI b)
 rw [← hea, ← heb]
 refine fix_fn2 (fn := ir374) tb_374 rfl rfl (by decide) rfl ?_; intro Q hQ; simp only [shutArgs, shutS, List.map_cons, List.map_nil, ir374, shut_in h0, List.head?_nil, reduceCtorEq, if_false, sExt, sHello, sAnswer, sEdit, sDeal, sBox, sDialed, sKnown]
 intro add sub mul arith eq ne lt le gt ge neg conv mn mx not beq len at' ln bd cut app allS isNil mks set o hP F ho
 have c1 : o 229 [R ea (.sp 0 0), R eb (.sp 1 0)] = some ⟨[B v], [], none⟩ := by rw [ho, hv, hea, heb]; exact ok229 a b hl rfl rfl
 cbv
 rw [c1]; cbv
 rw [hQ]; cbv
 exact congrArg some hr
theorem ok230 (n lo hi : Int) : fix Tb md 230 [I n, I lo, I hi] = some ⟨[B (inR n lo hi)], [], none⟩ := by
 refine fix_fn (fn := ir230) tb_230 rfl rfl (by decide) rfl ?_; simp only [shutArgs, shutS, List.map_cons, List.map_nil, ir230, List.head?_nil, reduceCtorEq, if_false, sExt, sHello, sAnswer, sEdit, sDeal, sBox, sDialed, sKnown]
 generalize hr : (⟨_, [], none⟩ : Ret) = r
 intro add sub mul arith eq ne lt le gt ge neg conv mn mx not beq len at' ln bd cut app allS isNil mks set o hP F ho
 cbv
 repeat' (refine both (fun c => ?_) (fun c => ?_) <;> (try rw [c]) <;> (try cbv))
 all_goals (simp only [F.le, F.ge, F.lt, F.gt] at *; subst hr; (try simp_all [inR]) <;> (try omega))
def verGo : List Int → List Int → Bool
 | _, [] => true
 | pre, x :: suf => inR x 1 9 && (match pre.getLast? with | none => true | some y => !decide (x ≤ y)) && verGo (pre ++ [x]) suf
def areVer (l : List Int) : Bool := verGo [] l && decide (0 < l.length)
def tagP (t : Int) (e : Ext) : Bool := decide (e.tag = t)
def extOf (l : List Ext) (t : Int) : Int := ixOf (tagP t) l 0
theorem ixOf_pre {α : Type} {p : α → Bool} : ∀ {pre : List α} {x : α} {suf : List α} {i : Int}, p x = true → (pre.any p = false → ixOf p (pre ++ x :: suf) i = i + (pre.length : Int)) ∧ (pre.any p = true → ixOf p (pre ++ x :: suf) i < i + (pre.length : Int))
 | [], x, suf, i, hx => by simp [ixOf, hx]
 | y :: pre, x, suf, i, hx => by
  obtain ⟨h1, h2⟩ := ixOf_pre (pre := pre) (suf := suf) (i := i + 1) hx
  rw [List.cons_append, List.any_cons]
  unfold ixOf
  by_cases hy : p y = true
  ·rw [if_pos hy, hy]; simp; omega
  ·rw [if_neg hy]; simp at hy; rw [hy, Bool.false_or]
   constructor
   ·intro q; rw [h1 q]; simp; omega
   ·intro q; have := h2 q; simp; omega
theorem ixOf_lt {α : Type} {p : α → Bool} {pre : List α} {x : α} {suf : List α} {i : Int} (hx : p x = true) (hi : At i pre.length) : decide (ixOf p (pre ++ x :: suf) 0 < i) = pre.any p := by
 unfold At at hi
 obtain ⟨h1, h2⟩ := ixOf_pre (pre := pre) (suf := suf) (i := 0) hx
 cases h : pre.any p with
 | false => rw [h1 h, hi]; simp
 | true => have := h2 h; rw [hi]; simp; omega
def exOk : List Ext → List Ext → Bool
 | _, [] => true
 | pre, x :: suf => inR x.tag 0 255 && !decide (4 < x.body.length) && bytes x.body && !(pre.any (tagP x.tag)) && exOk (pre ++ [x]) suf
def areEx (l : List Ext) : Bool := exOk [] l && decide (l.length ≤ 6)
def isHel (h : Hello) : Bool := areVer h.versions && areEx h.exts
def sel {α β : Type} (P : α → Bool) (g : α → β) (l : List α) : List β := (l.filter P).map g
theorem sel_t {α β : Type} {P : α → Bool} {g : α → β} {a : List α} {x : α} (h : P x = true) : sel P g (a ++ [x]) = sel P g a ++ [g x] := by unfold sel; rw [List.filter_append, List.filter_cons, h]; simp
theorem sel_f {α β : Type} {P : α → Bool} {g : α → β} {a : List α} {x : α} (h : P x = false) : sel P g (a ++ [x]) = sel P g a := by unfold sel; rw [List.filter_append, List.filter_cons, h]; simp
theorem sel_len {α β : Type} {P : α → Bool} {g : α → β} {a : List α} : (sel P g a).length ≤ a.length := by unfold sel; rw [List.length_map]; exact List.length_filter_le _ _
def hasI (l : List Int) (n : Int) : Bool := l.any fun y => decide (y = n)
def idE (e : Ext) : Ext := e
def idI (n : Int) : Int := n
theorem sel_idE {P : Ext → Bool} {l : List Ext} : sel P idE l = l.filter P := by unfold sel idE; simp
theorem sel_idI {P : Int → Bool} {l : List Int} : sel P idI l = l.filter P := by unfold sel idI; simp
def notTag (t : Int) (e : Ext) : Bool := decide (e.tag ≠ t)
def comm (a b : List Int) : List Int := sel (hasI b) idI a
def bestC (a b : List Int) : Int := if areVer a && areVer b then (comm a b).getLastD 0 else 0
theorem ver_asc : ∀ (suf pre : List Int), verGo pre suf = true → (∀ y, pre.getLast? = some y → ∀ x ∈ suf, y < x) ∧ suf.Pairwise (· < ·) ∧ ∀ x ∈ suf, 1 ≤ x ∧ x ≤ 9
 | [], _, _ => ⟨by simp, .nil, by simp⟩
 | x :: suf, pre, h => by
  unfold verGo at h
  simp only [Bool.and_eq_true] at h
  obtain ⟨⟨h1, h2⟩, h3⟩ := h
  obtain ⟨i1, i2, i3⟩ := ver_asc suf _ h3
  have i1' := i1 x (by simp)
  have hx : 1 ≤ x ∧ x ≤ 9 := by unfold inR at h1; simpa using h1
  refine ⟨?_, List.pairwise_cons.2 ⟨i1', i2⟩, ?_⟩
  ·intro y hy z hz
   rw [hy] at h2
   simp only [Bool.not_eq_true', decide_eq_false_iff_not] at h2
   rcases List.mem_cons.1 hz with rfl | hz
   ·omega
   ·have := i1' z hz; omega
  ·intro z hz
   rcases List.mem_cons.1 hz with rfl | hz
   ·exact hx
   ·exact i3 z hz
theorem areVer_asc {l : List Int} (h : areVer l = true) : l.Pairwise (· < ·) ∧ ∀ x ∈ l, 1 ≤ x ∧ x ≤ 9 := by
 unfold areVer at h
 simp only [Bool.and_eq_true] at h
 exact (ver_asc l [] h.1).2
def mxI (x y : Int) : Int := if y > x then y else x
theorem mx_last : ∀ (l : List Int) (d : Int), l.Pairwise (· < ·) → (∀ x ∈ l, d < x) → l.foldl mxI d = l.getLastD d
 | [], _, _, _ => rfl
 | x :: l, d, h1, h2 => by
  rw [List.foldl_cons, show mxI d x = x by unfold mxI; rw [if_pos (h2 x (by simp))]]
  rw [mx_last l x (List.pairwise_cons.1 h1).2 (List.pairwise_cons.1 h1).1]
  cases l <;> rfl
theorem comm_asc {a b : List Int} (h : areVer a = true) : (comm a b).Pairwise (· < ·) ∧ ∀ x ∈ comm a b, 1 ≤ x ∧ x ≤ 9 := by
 obtain ⟨h1, h2⟩ := areVer_asc h
 unfold comm
 rw [sel_idI]
 exact ⟨h1.filter _, fun x hx => h2 x (List.mem_filter.1 hx).1⟩
theorem comm_max {a b : List Int} (h : areVer a = true) : (comm a b).foldl mxI 0 = (comm a b).getLastD 0 := by
 obtain ⟨h1, h2⟩ := comm_asc (b := b) h
 exact mx_last _ _ h1 fun x hx => by have := h2 x hx; omega
theorem last_split {l : List Int} (h : l ≠ []) : l = l.dropLast ++ [l.getLastD 0] := by
 rw [List.getLastD_eq_getLast?, List.getLast?_eq_some_getLast h]
 exact (List.dropLast_concat_getLast h).symm
def l4Go (n : Int) : List Int → List Int → List Int
 | pre, [] => pre ++ [n]
 | pre, x :: suf => if x < n then l4Go n (pre ++ [x]) suf else if x = n then pre ++ x :: suf else pre ++ n :: x :: suf
def l4V (l : List Int) (n : Int) : List Int := l4Go n [] l
theorem l4Go_len (n : Int) : ∀ (suf pre : List Int), (l4Go n pre suf).length ≤ pre.length + suf.length + 1
 | [], pre => by simp [l4Go]
 | x :: suf, pre => by
  unfold l4Go
  split
  ·have := l4Go_len n suf (pre ++ [x]); simp at this ⊢; omega
  ·split <;> simp <;> omega
theorem l4V_len (l : List Int) (n : Int) : (l4V l n).length ≤ l.length + 1 := by have := l4Go_len n l []; simpa [l4V] using this
theorem l4Go_perm (n : Int) : ∀ (suf pre : List Int), n ∉ suf → (l4Go n pre suf).Perm (n :: (pre ++ suf))
 | [], pre, _ => by unfold l4Go; rw [List.append_nil]; exact List.perm_append_singleton n pre
 | x :: suf, pre, h => by
  unfold l4Go
  simp only [List.mem_cons, not_or] at h
  split
  ·have := l4Go_perm n suf (pre ++ [x]) h.2
   simpa using this
  ·rw [if_neg (fun e => h.1 e.symm)]
   exact List.perm_middle
theorem l4Go_asc (n : Int) : ∀ (suf pre : List Int), (pre ++ suf).Pairwise (· < ·) → n ∉ suf → (∀ x ∈ pre, x < n) → (l4Go n pre suf).Pairwise (· < ·)
 | [], pre, h1, _, h3 => by
  unfold l4Go
  rw [List.append_nil] at h1
  rw [List.pairwise_append]
  exact ⟨h1, by simp, fun a ha b hb => by simp at hb; subst hb; exact h3 a ha⟩
 | x :: suf, pre, h1, h2, h3 => by
  unfold l4Go
  simp only [List.mem_cons, not_or] at h2
  split
  ·rename_i hx
   refine l4Go_asc n suf (pre ++ [x]) (by simpa using h1) h2.2 (fun y hy => ?_)
   rcases List.mem_append.1 hy with hy | hy
   ·exact h3 y hy
   ·simp at hy; subst hy; exact hx
  ·rename_i hx
   rw [if_neg (fun e => h2.1 e.symm)]
   rw [List.pairwise_append] at h1 ⊢
   obtain ⟨p1, p2, p3⟩ := h1
   have hnx : n < x := by have := h2.1; omega
   refine ⟨p1, List.pairwise_cons.2 ⟨fun y hy => ?_, p2⟩, fun a ha b hb => ?_⟩
   ·rcases List.mem_cons.1 hy with rfl | hy
    ·exact hnx
    ·exact Int.lt_trans hnx ((List.pairwise_cons.1 p2).1 y hy)
   ·rcases List.mem_cons.1 hb with rfl | hb
    ·exact h3 a ha
    ·exact p3 a ha b hb
theorem sortI_put {l : List Int} {n : Int} (h : areVer l = true) (hn : hasI l n = false) : sortI (l ++ [n]) = l4V l n := by
 have hm : n ∉ l := fun q => by
  unfold hasI at hn
  rw [List.any_eq_false] at hn
  exact hn n q (by simp)
 obtain ⟨h1, _⟩ := areVer_asc h
 have p1 : (l4V l n).Perm (n :: l) := by have := l4Go_perm n l [] hm; simpa [l4V] using this
 have p2 : (sortI (l ++ [n])).Perm (l ++ [n]) := List.mergeSort_perm _ _
 have s1 : (l4V l n).Pairwise (· < ·) := l4Go_asc n l [] (by simpa using h1) hm (by simp)
 have s2 : (sortI (l ++ [n])).Pairwise (fun a b => decide (a ≤ b) = true) := List.pairwise_mergeSort (fun a b c => by simp; omega) (fun a b => by simp; omega) _
 refine List.Perm.eq_of_pairwise (le := fun a b => a ≤ b) (fun a b _ _ h1 h2 => Int.le_antisymm h1 h2) (s2.imp (fun h => by simpa using h)) (s1.imp (fun h => Int.le_of_lt h)) ?_
 exact p2.trans ((List.perm_append_singleton n l).trans p1.symm)
def avOk (l : List Int) (v : Int) : Bool := areVer l && inR v 1 9 && !hasI l v
def avV (l : List Int) (v : Int) : List Int := if avOk l v then l4V l v else l
theorem avV_len (l : List Int) (v : Int) : (avV l v).length ≤ l.length + 1 := by
 unfold avV; split
 ·exact l4V_len l v
 ·omega
theorem ok285 (l : List Int) (n : Int) (hl : l.length ≤ 1099511627776) {f0 : Fl} (h0 : inFl f0 = true) : fix Tb md 285 [R (row fI l) f0, I n] = some ⟨[B (hasI l n)], [], none⟩ := by
 obtain ⟨T, hT⟩ := nm (hasI l n)
 rw [← hT]
 generalize hr : (⟨_, [], none⟩ : Ret) = r
 obtain ⟨ea, hea⟩ := nm (row fI l)
 rw [← hea]
 refine fix_fn2 (fn := ir285) tb_285 rfl rfl (by decide) rfl ?_; intro Q hQ; simp only [shutArgs, shutS, List.map_cons, List.map_nil, ir285, shut_in h0, List.head?_nil, reduceCtorEq, if_false, sExt, sHello, sAnswer, sEdit, sDeal, sBox, sDialed, sKnown]
 intro add sub mul arith eq ne lt le gt ge neg conv mn mx not beq len at' ln bd cut app allS isNil mks set o hP F ho
 have la := F.len_at hea
 cbv
 refine loop_ind2 hP (σ := List Int × List Int × Int) (fun s => [(0, R ea .sh), (1, I n), (4, B false), (5, I s.2.2)]) (fun s => At s.2.2 s.2.1.length ∧ l = s.2.1 ++ s.1 ∧ hasI s.1 n = T) (fun s => s.1.length) (l, [], 0) rfl ⟨rfl, rfl, hT.symm⟩ ?_
 intro c1 Q1 hc1 hQ1
 rintro ⟨suf, pre, i⟩ ⟨hi, hl', hb⟩ ih
 simp only at hi hl' hb ih
 cbv
 cases suf with
 | nil =>
  rw [F.lt_f hi la (by simp [hl'])]; cbv
  rw [hQ1]; cbv
  rw [hQ]; cbv
  rw [← hr, ← hb]; rfl
 | cons x suf =>
  obtain ⟨v, hv⟩ := nm (decide (x = n))
  have hT' : T = (v || hasI suf n) := by rw [← hb, hv]; rfl
  obtain ⟨ix, hix⟩ := nm (pre.length * 1)
  rw [F.lt_t hi la (by simp [hl'])]; cbv
  rw [show at' 1 ea i = some (ix, [.int .i64 x]) by rw [hix]; exact F.get hi hea hl' (fun _ => rfl) (by decide)]; cbv
  rw [show eq x n = v by rw [F.eq, hv]]; cbv
  refine both (fun d => ?_) (fun d => ?_) <;> rw [d] <;> cbv
  ·rw [hQ1]; cbv
   rw [hQ]; cbv
   rw [← hr, hT', d]; rfl
  ·refine ih (suf, pre ++ [x], add .i64 i 1) ⟨at_len (F.inc hi (by simp [hl'] at hl; omega)) (by simp), by simp [hl'], ?_⟩ (by simp)
   rw [hT', d]; rfl
def notIn (b : List Int) (x : Int) : Bool := !hasI b x
def neI (t x : Int) : Bool := decide (x ≠ t)
def dvOk (l : List Int) (v : Int) : Bool := areVer l && hasI l v && !decide (l.length = 1)
def dvV (l : List Int) (v : Int) : List Int := if dvOk l v then sel (neI v) idI l else l
theorem dvV_len {l : List Int} {v : Int} : (dvV l v).length ≤ l.length := by
 unfold dvV; split
 ·exact sel_len
 ·exact Nat.le_refl _
theorem notIn_one {v : Int} : notIn [v] = neI v := by
 funext x
 simp only [notIn, neI, hasI, List.any_cons, List.any_nil, Bool.or_false]
 by_cases h : v = x <;> simp [h, eq_comm]
def ehX (h : Hello) (n : Int) : List Ext := h.exts ++ [⟨n, []⟩]
def editH (h : Hello) (e : Edit) : Hello :=
 if e.kind = 1 then ⟨dvV h.versions e.n, h.exts⟩ else if e.kind = 2 then ⟨avV h.versions e.n, h.exts⟩ else if e.kind = 3 then ⟨h.versions, sel (notTag e.n) idE h.exts⟩ else if e.kind = 6 then (if areEx (ehX h e.n) = true then ⟨h.versions, ehX h e.n⟩ else h) else h
def hB (h : Hello) (n m : Nat) : Prop := h.versions.length ≤ n ∧ h.exts.length ≤ m ∧ ∀ y ∈ h.exts, y.body.length ≤ 1073741824
theorem editH_b {h : Hello} {e : Edit} {n m : Nat} (q : hB h n m) : hB (editH h e) (n + 1) (m + 1) := by
 obtain ⟨q1, q2, q3⟩ := q
 unfold editH
 split
 ·exact ⟨Nat.le_trans (Nat.le_trans dvV_len q1) (by omega), by show h.exts.length ≤ _; omega, q3⟩
 split
 ·exact ⟨by have := avV_len h.versions e.n; show (avV h.versions e.n).length ≤ _; omega, by show h.exts.length ≤ _; omega, q3⟩
 split
 ·refine ⟨by show h.versions.length ≤ _; omega, Nat.le_trans sel_len (by omega), fun y hy => q3 y ?_⟩
  simp only [sel_idE] at hy
  exact (List.mem_filter.1 hy).1
 split
 ·split
  ·refine ⟨by show h.versions.length ≤ _; omega, by show (ehX h e.n).length ≤ _; simp [ehX]; omega, fun y hy => ?_⟩
   simp only [ehX] at hy
   rcases List.mem_append.1 hy with hy | hy
   ·exact q3 y hy
   ·simp at hy; subst hy; simp
  ·exact ⟨by omega, by omega, q3⟩
 ·exact ⟨by omega, by omega, q3⟩
theorem hB_mid {h : Hello} {n : Nat} (q : hB h n n) (hn : n ≤ 1073741824) : h.Mid := ⟨Nat.le_trans q.1 hn, Nat.le_trans q.2.1 hn, q.2.2⟩
def finW (fn : FnIr) (args : List SU) (L : Nat) (W : Option Ret → Prop) (ex : Ex) (m : Mp) : Prop := match ex with
 | .normal => W (finish fn args (S L m))
 | .ret => W (finish fn args (S L m))
 | .exit _ => False
theorem fix_wpE {T : Nat → Option FnIr} {md : Modes} {g : Nat} {fn : FnIr} (hT : T g = some fn) (hsp : fn.sp = 0) {args : List SU} (hlen : args.length = fn.np) (hle : fn.np ≤ fn.ntmps) {p : Ret → Prop} {m : Mp} (hm : start fn (shutArgs fn.modes args) = S (2 * fn.ntmps + 2) m)
  (hw : wpc std (fix T md) md fn.ntmps (2 * fn.ntmps + 2) fn.body m (finW fn (shutArgs fn.modes args) (2 * fn.ntmps + 2) fun o => ∃ r, o = some r ∧ p r)) : ∃ r, fix T md g args = some r ∧ p r := by
 obtain ⟨n, ex, st, h, m', rfl, hq⟩ := wpc_sound _ _ hw
 rw [← hm] at h
 cases ex with
 | normal => obtain ⟨r, h1, h2⟩ := hq; exact ⟨r, fix_body hT hsp hlen hle h (.inl rfl) h1, h2⟩
 | ret => obtain ⟨r, h1, h2⟩ := hq; exact ⟨r, fix_body hT hsp hlen hle h (.inr rfl) h1, h2⟩
 | exit i => exact hq.elim
theorem fix_bxE {T : Nat → Option FnIr} {md : Modes} {g : Nat} {fn : FnIr} (hT : T g = some fn) (hsp : fn.sp = 0) (hm : fn.modes = [.mbox]) {cs : List (Cell Unit)} {rest : List SU} (hlen : rest.length + 1 = fn.np) (hle : fn.np ≤ fn.ntmps) {p : Ret → Prop}
  (hw : ∀ Q W, (∀ r, p r → W (some r)) → Q = finW fn (⟨.box (), cs⟩ :: rest.map shutS) (2 * fn.ntmps + 2) W → Sym (fun P O => wpc P O md fn.ntmps (2 * fn.ntmps + 2) fn.body (enumS 0 (⟨.ptr (lockS fn.ntmps + 1) 0, []⟩ :: rest.map shutS) ++ [(lockS fn.ntmps + 1, ⟨.box (), cs⟩)]) Q) (fix T md)) : ∃ r, fix T md g (⟨.box (), cs⟩ :: rest) = some r ∧ p r := by
 have hs : shutArgs fn.modes (⟨.box (), cs⟩ :: rest) = ⟨.box (), cs⟩ :: rest.map shutS := by rw [hm]; rfl
 refine fix_wpE hT hsp (by simpa using hlen) hle (m := enumS 0 (⟨.ptr (lockS fn.ntmps + 1) 0, []⟩ :: rest.map shutS) ++ [(lockS fn.ntmps + 1, ⟨.box (), cs⟩)]) ?_ ?_
 ·rw [hs]; exact start_box (by simpa using hlen) hle
 ·rw [hs]; exact (hw _ _ (fun r h => ⟨r, rfl, h⟩) rfl).at
theorem fix_fnE {T : Nat → Option FnIr} {md : Modes} {g : Nat} {fn : FnIr} (hT : T g = some fn) (hsp : fn.sp = 0) {args : List SU} (hlen : args.length = fn.np) (hle : fn.np ≤ fn.ntmps) (hb : args.all noBox = true) {p : Ret → Prop}
  (hw : ∀ Q W, (∀ r, p r → W (some r)) → Q = finW fn (shutArgs fn.modes args) (2 * fn.ntmps + 2) W → Sym (fun P O => wpc P O md fn.ntmps (2 * fn.ntmps + 2) fn.body (enumS 0 (shutArgs fn.modes args)) Q) (fix T md)) : ∃ r, fix T md g args = some r ∧ p r := by
 refine fix_wpE hT hsp hlen hle (start_S (by rw [shut_len]; exact hlen) hle (fun s l t e hk => ?_)) (hw _ _ (fun r h => ⟨r, rfl, h⟩) rfl).at
 unfold shutArgs at e
 have hbs : ∀ x ∈ args, noBox x = true := by simpa using hb
 split at e
 ·have := hbs s (by rw [e]; exact List.mem_cons_self ..)
  simp [noBox, hk] at this
 ·cases args with
  | nil => simp at e
  | cons x xs =>
   simp only [List.map_cons, List.cons.injEq] at e
   have := hbs x (List.mem_cons_self ..)
   obtain ⟨k, cs⟩ := x
   rw [← e.1] at hk
   cases k <;> simp [shutS] at hk
   simp [noBox] at this
def CW (B : List Int) (i : Int) : Prop := ∃ n : Nat, i = n ∧ n ≤ B.length ∧ B.length ≤ 1048576
theorem CW.cur {B : List Int} {i : Int} (w : CW B i) (h : Int) : ∃ c : Cur, c.Ok ∧ c.b = B ∧ c.ii = i ∧ c.h = h := by
 obtain ⟨n, rfl, h1, h2⟩ := w
 exact ⟨⟨B, n, h⟩, ⟨h1, h2⟩, rfl, rfl, rfl⟩
theorem Cur.Ok.cw {c : Cur} (q : c.Ok) : CW c.b c.ii := ⟨c.i, rfl, q.1, q.2⟩
def Draws (g : Nat) (B : List Int) (eb : List (List V)) (i h : Int) (args : List SU) (p : SU → Prop) : Prop :=
 ∃ v i' h', fix Tb md g (sCur eb (.sp 0 0) i h :: args) = some ⟨[v], [], some (vCur eb i' h')⟩ ∧ CW B i' ∧ p v
structure Move where
 src : Int
 send : Bool
 msg : Int
 dst : Int
def fMove (x : Move) : List V := [.int .i64 x.src, .bool x.send, .int .i64 x.msg, .int .i64 x.dst]
structure Mach where
 states : Int
 ends : List Bool
 moves : List Move
abbrev sMove (x : Move) : SU := ⟨.agg, [⟨.int .i64 x.src, .sc⟩, ⟨.bool x.send, .sc⟩, ⟨.int .i64 x.msg, .sc⟩, ⟨.int .i64 x.dst, .sc⟩]⟩
abbrev sMach (st : Int) (e m : List (List V)) (g1 g2 : Fl) : SU := ⟨.agg, [⟨.int .i64 st, .sc⟩, ⟨.row () e, g1⟩, ⟨.row () m, g2⟩]⟩
def isMv (s : Int) (d : Bool) (n : Int) (x : Move) : Bool := decide (x.src = s) && decide (x.send = d) && decide (x.msg = n)
def mvOf (l : List Move) (s : Int) (d : Bool) (n : Int) : Int := ixOf (isMv s d n) l 0
def isFr (s : Int) (d : Bool) (x : Move) : Bool := decide (x.src = s) && decide (x.send = d)
inductive Reach (N : Int → Int → List (List Int)) : List Int → Prop
 | zero : Reach N [0, 0]
 | step {a b : Int} {p : List Int} : Reach N [a, b] → p ∈ N a b → Reach N p
def isPr (p : List Int) : Prop := ∃ a b : Int, p = [a, b] ∧ 0 ≤ a ∧ a < 6 ∧ 0 ≤ b ∧ b < 6
structure Rch (N : Int → Int → List (List Int)) (L : List (List Int)) : Prop where
 pr : ∀ p ∈ L, isPr p
 zero : [0, 0] ∈ L
 step : ∀ a b, [a, b] ∈ L → ∀ p ∈ N a b, p ∈ L
 reach : ∀ p ∈ L, Reach N p
 len : L.length ≤ 36
theorem Rch.iff {N : Int → Int → List (List Int)} {L : List (List Int)} (h : Rch N L) {p : List Int} : p ∈ L ↔ Reach N p := by
 constructor
 ·exact h.reach p
 ·intro q
  induction q with
  | zero => exact h.zero
  | step _ hp ih => exact h.step _ _ ih _ hp
theorem sub_len {α : Type} [BEq α] [LawfulBEq α] : ∀ {l m : List α}, l.Nodup → (∀ x ∈ l, x ∈ m) → l.length ≤ m.length
 | [], m, _, _ => by simp
 | x :: l, m, hn, hs => by
  rw [List.nodup_cons] at hn
  have hx := hs x (by simp)
  have h1 := sub_len (m := m.erase x) hn.2 fun y hy => by
   have hne : y ≠ x := fun e => hn.1 (e ▸ hy)
   exact (List.mem_erase_of_ne hne).2 (hs y (by simp [hy]))
  have h2 := List.length_erase_of_mem hx
  have h3 := List.length_pos_of_mem hx
  simp only [List.length_cons]; omega
structure Way (N : Int → Int → List (List Int)) (L : List (List Int)) : Prop where
 pr : ∀ p ∈ L, isPr p
 zero : [0, 0] ∈ L
 nd : L.Nodup
 reach : ∀ p ∈ L, Reach N p
def allPr : List (List Int) := [0, 1, 2, 3, 4, 5].flatMap fun a => [0, 1, 2, 3, 4, 5].map fun b => [a, b]
theorem isPr_mem {p : List Int} (h : isPr p) : p ∈ allPr := by
 obtain ⟨a, b, rfl, h1, h2, h3, h4⟩ := h
 unfold allPr
 rw [List.mem_flatMap]
 refine ⟨a, ?_, List.mem_map.2 ⟨b, ?_, rfl⟩⟩
 ·simp; omega
 ·simp; omega
theorem Way.len {N : Int → Int → List (List Int)} {L : List (List Int)} (h : Way N L) : L.length ≤ 36 := sub_len (m := allPr) h.nd fun p hp => isPr_mem (h.pr p hp)
theorem Way.push {N : Int → Int → List (List Int)} {L : List (List Int)} {q : List Int} (h : Way N L) (h1 : isPr q) (h2 : q ∉ L) (h3 : Reach N q) : Way N (L ++ [q]) := by
 refine ⟨fun p hp => ?_, by simp [h.zero], ?_, fun p hp => ?_⟩
 ·rcases List.mem_append.1 hp with e | e
  ·exact h.pr p e
  ·simp at e; rw [e]; exact h1
 ·rw [List.nodup_append]
  refine ⟨h.nd, by simp, ?_⟩
  intro a ha b hb e
  simp at hb
  subst hb; subst e
  exact h2 ha
 ·rcases List.mem_append.1 hp with e | e
  ·exact h.reach p e
  ·simp at e; rw [e]; exact h3
theorem Way.one {N : Int → Int → List (List Int)} : Way N [[0, 0]] := ⟨fun p hp => ⟨0, 0, by simpa using hp, by decide, by decide, by decide, by decide⟩, by simp, by simp, by simpa using Reach.zero⟩
def Led (N : Int → Int → List (List Int)) (L L' : List (List Int)) : Prop := ∀ a b, [a, b] ∈ L → ∀ p ∈ N a b, p ∈ L'
def flO (b : Bool) : Fl := match b with | true => .os false | false => .ow false
theorem loop_share {P : Prims} {O : Orac} {md : Modes} {nt L : Nat} (hP : P = std) {c : Cd} {Q : Ex → Mp → Prop} {σ : Type} {st : σ → Mp} {inv : σ → Prop} {μ : σ → Nat} {C : Prop} (main : (∀ s, inv s → LoopP O md nt L c (st s) Q) → C)
  (step : ∀ (c' : Cd) (Q' : Ex → Mp → Prop), c' = c → Q' = Q → ∀ s, inv s → (∀ s', inv s' → μ s' < μ s → LoopP O md nt L c' (st s') Q') → wpc P O md nt L c (st s) fun ex m => match ex with | .normal => LoopP O md nt L c' m Q' | .exit i => Q' (.exit i) m | .ret => Q' .ret m) : C :=
 main fun s hs => loop_ind2 hP st inv μ s rfl hs step
theorem ok331 (g : Nat) (hg : md g = []) (k0 k1 : V) (N : Int → Int → List (List Int))
  (hN : ∀ x y, fix Tb md g [I x, I y, ⟨.val, [⟨k0, .sh⟩]⟩, ⟨.val, [⟨k1, .sh⟩]⟩] = some ⟨[R (row fR (N x y)) (.ow false)], [], none⟩)
  (hB : ∀ x y, ∀ p ∈ N x y, isPr p) (hNl : ∀ x y, (N x y).length ≤ 1024) :
  ∃ r, fix Tb md 331 [⟨.val, [⟨.fn g [k0, k1], .sh⟩]⟩] = some r ∧ ∃ L f, r = ⟨[R (row fR L) f], [], none⟩ ∧ (f = .ow false ∨ f = .os false) ∧ Rch N L := by
 generalize hm : md = m at hg hN ⊢
 refine fix_fnE (fn := ir331) tb_331 rfl rfl (by decide) rfl ?_; intro Q W hW hQ; simp only [shutArgs, shutS, List.map_cons, List.map_nil, ir331]
 have hW1 : ∀ L el, el = row fR L → Rch N L → W (some ⟨[R el (.ow false)], [], none⟩) := fun L el a b => hW _ ⟨L, _, by rw [a], .inl rfl, b⟩
 have hW2 : ∀ L el, el = row fR L → Rch N L → W (some ⟨[R el (.os false)], [], none⟩) := fun L el a b => hW _ ⟨L, _, by rw [a], .inr rfl, b⟩
 clear hW
 have h234 : m 234 = [] := by rw [← hm]; rfl
 intro add sub mul arith eq ne lt le gt ge neg conv mn mx not beq len at' ln bd cut app allS isNil mks set o hP F ho
 have p2 : ∀ a b, at' 1 [[.int .i64 a], [.int .i64 b]] 0 = some (0, [.int .i64 a]) := fun a b => by rw [F.at']; rfl
 have p3 : ∀ a b, at' 1 [[.int .i64 a], [.int .i64 b]] 1 = some (1, [.int .i64 b]) := fun a b => by rw [F.at']; rfl
 cbv
 refine loop_ind2 hP (σ := List (List Int) × List (List Int) × List (List V) × Int × Bool × Option (List (List V) × Int × Int × Option (List (List V)))) (fun s => match s.2.2.2.2.2 with
  | none => [(0, ⟨.val, [⟨.fn g [k0, k1], .sh⟩]⟩), (2, R [] .nl), (3, R s.2.2.1 (flO s.2.2.2.2.1)), (4, I s.2.2.2.1)]
  | some (en, n, i2, none) => [(0, ⟨.val, [⟨.fn g [k0, k1], .sh⟩]⟩), (2, R [] .nl), (3, R s.2.2.1 (flO s.2.2.2.2.1)), (4, I s.2.2.2.1), (28, R en (.ow false)), (29, I n), (30, I i2)]
  | some (en, n, i2, some q) => [(0, ⟨.val, [⟨.fn g [k0, k1], .sh⟩]⟩), (2, R [] .nl), (3, R s.2.2.1 (flO s.2.2.2.2.1)), (4, I s.2.2.2.1), (6, ⟨.ptr 50 0, []⟩), (28, R en (.ow false)), (29, I n), (30, I i2), (50, ⟨.box (), [⟨.row () q, .fr⟩]⟩)])
  (fun s => At s.2.2.2.1 s.1.length ∧ s.2.2.1 = row fR (s.1 ++ s.2.1) ∧ Way N (s.1 ++ s.2.1) ∧ Led N s.1 (s.1 ++ s.2.1)) (fun s => 36 - s.1.length) ([], [[0, 0]], _, 0, false, none) rfl ⟨rfl, rfl, Way.one, by simp [Led]⟩ ?_
 intro c9 Q1 hc9 hQ1
 rintro ⟨pre, suf, eo, i, bf, j⟩ ⟨hi, heo, hw, hled⟩ ih
 simp only at hi heo hw hled ih
 have lo := F.len_at heo
 cases suf with
 | nil =>
  have fin : Rch N (pre ++ []) := ⟨hw.pr, hw.zero, fun a b hab => hled a b (by simpa using hab), hw.reach, hw.len⟩
  have g1 : lt i (len eo) = false := F.lt_f hi lo (by simp)
  clear ih
  rcases bf with _ | _ <;> rcases j with _ | ⟨en, n, i2, _ | q⟩
  all_goals
   cbv
   rw [g1]; cbv
   rw [hQ1]; cbv
   rw [hQ]; cbv
   first
   | exact hW1 _ eo heo fin
   | exact hW2 _ eo heo fin
 | cons p suf =>
  obtain ⟨x, y, hxy, _, _, _, _⟩ := hw.pr p (by simp)
  have g1 : lt i (len eo) = true := F.lt_t hi lo (by simp)
  obtain ⟨ix, hix⟩ := nm (pre.length * 1)
  have r1 : at' 1 eo i = some (ix, [.row () [[.int .i64 x], [.int .i64 y]]]) := by rw [hix, F.get hi heo rfl (fun _ => rfl) (by decide), hxy]; rfl
  obtain ⟨M, hM⟩ := nm (N x y)
  obtain ⟨en, hen⟩ := nm (row fR M)
  have c1 : o g [I x, I y, ⟨.val, [⟨k0, .sh⟩]⟩, ⟨.val, [⟨k1, .sh⟩]⟩] = some ⟨[R en (.ow false)], [], none⟩ := by rw [ho, hen, hM]; exact hN x y
  have ln2 := F.len_at hen
  have hMl : M.length ≤ 1024 := by rw [hM]; exact hNl x y
  have hMp : ∀ q ∈ M, isPr q ∧ Reach N q := fun q hq => by
   rw [hM] at hq
   exact ⟨hB x y q hq, .step (hw.reach [x, y] (by rw [← hxy]; simp)) hq⟩
  apply loop_share hP (st := fun (s : List (List Int) × List (List Int) × List (List Int) × List (List V) × Int × Bool × Option (List (List V))) => match s.2.2.2.2.2.2 with
   | none => [(0, ⟨.val, [⟨.fn g [k0, k1], .sh⟩]⟩), (2, R [] .nl), (3, R s.2.2.2.1 (flO s.2.2.2.2.2.1)), (4, I i), (28, R en (.ow false)), (29, I (len en)), (30, I s.2.2.2.2.1)]
   | some q => [(0, ⟨.val, [⟨.fn g [k0, k1], .sh⟩]⟩), (2, R [] .nl), (3, R s.2.2.2.1 (flO s.2.2.2.2.2.1)), (4, I i), (6, ⟨.ptr 50 0, []⟩), (28, R en (.ow false)), (29, I (len en)), (30, I s.2.2.2.2.1), (50, ⟨.box (), [⟨.row () q, .fr⟩]⟩)])
   (inv := fun s => At s.2.2.2.2.1 s.1.length ∧ M = s.1 ++ s.2.1 ∧ s.2.2.2.1 = row fR (pre ++ p :: s.2.2.1) ∧ Way N (pre ++ p :: s.2.2.1) ∧ (∀ q ∈ suf, q ∈ s.2.2.1) ∧ ∀ q ∈ s.1, q ∈ pre ++ p :: s.2.2.1) (μ := fun s => s.2.1.length)
  ·intro key
   rcases bf with _ | _ <;> rcases j with _ | ⟨en', n', i2', _ | q'⟩
   all_goals
    cbv
    rw [g1]; cbv
    rw [r1]; cbv
    rw [p2]; cbv
    rw [r1]; cbv
    rw [p3]; cbv
    rw [hg]; cbv
    rw [c1]; cbv
    first
    | exact key ([], M, suf, eo, 0, false, none) ⟨rfl, rfl, heo, hw, fun _ h => h, by simp⟩
    | exact key ([], M, suf, eo, 0, true, none) ⟨rfl, rfl, heo, hw, fun _ h => h, by simp⟩
    | exact key ([], M, suf, eo, 0, false, some q') ⟨rfl, rfl, heo, hw, fun _ h => h, by simp⟩
    | exact key ([], M, suf, eo, 0, true, some q') ⟨rfl, rfl, heo, hw, fun _ h => h, by simp⟩
  ·intro c8 Q2 hc8 hQ2
   rintro ⟨pre2, suf2, sf, eo2, i2, b2, q2⟩ ⟨hi2, hM2, heo2, hw2, hsf, hled2⟩ ih2
   simp only at hi2 hM2 heo2 hw2 hsf hled2 ih2
   cases suf2 with
   | nil =>
    have g2 : lt i2 (len en) = false := F.lt_f hi2 ln2 (by simp [hM2])
    have hl' : pre.length < 36 := by have := hw2.len; simp at this; omega
    have hin : At (add .i64 i 1) (pre ++ [p]).length := at_len (F.inc hi (by omega)) (by simp)
    have hled3 : Led N (pre ++ [p]) (pre ++ p :: sf) := by
     intro a b hab q hq
     rcases List.mem_append.1 hab with e | e
     ·have := hled a b e q hq
      simp only [List.mem_append, List.mem_cons] at this ⊢
      rcases this with h | h | h
      ·exact .inl h
      ·exact .inr (.inl h)
      ·exact .inr (.inr (hsf q h))
     ·simp only [List.mem_singleton] at e
      rw [hxy] at e
      injection e with e1 e2
      injection e2 with e2
      subst e1; subst e2
      exact hled2 q (by rw [← hM, hM2] at hq; simpa using hq)
    have ih' := fun b j => ih (pre ++ [p], sf, eo2, add .i64 i 1, b, j) ⟨hin, by rw [heo2]; simp, by simpa using hw2, by simpa using hled3⟩ (by simp; omega)
    clear ih ih2
    rcases b2 with _ | _ <;> rcases q2 with _ | q2
    all_goals
     cbv
     rw [g2]; cbv
     rw [hQ2]; cbv
     first
     | exact ih' false (some (en, len en, i2, none))
     | exact ih' true (some (en, len en, i2, none))
     | exact ih' false (some (en, len en, i2, some q2))
     | exact ih' true (some (en, len en, i2, some q2))
   | cons q suf2 =>
    have g2 : lt i2 (len en) = true := F.lt_t hi2 ln2 (by simp [hM2])
    have hq := hMp q (by simp [hM2])
    obtain ⟨iz, hiz⟩ := nm (pre2.length * 1)
    obtain ⟨eq', heq'⟩ := nm (row fI q)
    have r2 : at' 1 en i2 = some (iz, [.row () eq']) := by rw [hiz, heq']; exact F.get hi2 hen hM2 (fun _ => rfl) (by decide)
    have hl2 := hw2.len
    obtain ⟨v, hv⟩ := nm ((pre ++ p :: sf).any fun z => decide (z = q))
    have c2 : o 234 [R eo2 (.sp 0 0), ⟨.val, [⟨.fn 374 [.ptr () [.row () eq']], .sh⟩]⟩] = some ⟨[B v], [], none⟩ := by
     rw [ho, ← hm, hv, heo2, heq']
     exact ok234_1 374 rfl _ (fun z => decide (z = q)) _ (by omega) (fun z hz => ok374 z q (by obtain ⟨a, b, e, _⟩ := hw2.pr z hz; rw [e]; exact (by decide : 2 ≤ 1099511627776)) rfl) rfl
    have g3 : not v = !v := F.not v
    have hi3 : At (add .i64 i2 1) (pre2 ++ [q]).length := at_len (F.inc hi2 (by rw [hM2] at hMl; simp at hMl; omega)) (by simp)
    have hM3 : M = (pre2 ++ [q]) ++ suf2 := by rw [hM2]; simp
    obtain ⟨eo3, heo3⟩ := nm (row fR (pre ++ p :: (sf ++ [q])))
    have s1 : allS [[.row () eq']] = false := by rw [F.allS]; rfl
    have s2 : app 1 eo2 [[.row () eq']] = some eo3 := by
     rw [heo3, show pre ++ p :: (sf ++ [q]) = (pre ++ p :: sf) ++ [q] by simp]
     exact F.push (f := fR) heo2 (fun _ => rfl) (by rw [heq']; rfl) (by omega)
    have ihT : ∀ b j, v = true → _ := fun b j hvt => ih2 (pre2 ++ [q], suf2, sf, eo2, add .i64 i2 1, b, j) ⟨hi3, hM3, heo2, hw2, hsf, fun z hz => by
     rcases List.mem_append.1 hz with e | e
     ·exact hled2 z e
     ·simp only [List.mem_singleton] at e
      rw [hv, List.any_eq_true] at hvt
      obtain ⟨t, ht, e2⟩ := hvt
      rw [decide_eq_true_eq] at e2
      rw [e, ← e2]; exact ht⟩ (by simp)
    have ihF : ∀ b j, v = false → _ := fun b j hvf => ih2 (pre2 ++ [q], suf2, sf ++ [q], eo3, add .i64 i2 1, b, j) ⟨hi3, hM3, heo3, by
      have hn : q ∉ pre ++ p :: sf := fun hmem => by
       rw [hv, List.any_eq_false] at hvf
       exact hvf q hmem (by simp)
      have := hw2.push hq.1 hn hq.2
      simpa using this, fun z hz => by simp [hsf z hz], fun z hz => by
     rcases List.mem_append.1 hz with e | e
     ·have := hled2 z e
      simp only [List.mem_append, List.mem_cons] at this ⊢
      rcases this with h | h | h
      ·exact .inl h
      ·exact .inr (.inl h)
      ·exact .inr (.inr (.inl h))
     ·simp only [List.mem_singleton] at e
      rw [e]; simp⟩ (by simp)
    clear ih ih2
    rcases b2 with _ | _ <;> rcases q2 with _ | q2
    all_goals
     cbv
     rw [g2]; cbv
     rw [r2]; cbv
     rw [h234]; cbv
     rw [h234]; cbv
     rw [c2]; cbv
     refine both (fun d => ?_) (fun d => ?_) <;> rw [d] <;> cbv
     ·rw [s1]; cbv
      rw [s2]; cbv
      exact ihF true (some eq') (F.not_t d)
     ·first
      | exact ihT false (some eq') (F.not_f d)
      | exact ihT true (some eq') (F.not_f d)
theorem ok366 (st : Int) (es : List Bool) (l : List Move) (s : Int) (d : Bool) (n : Int) (hl : l.length ≤ 1073741824) {f0 f1 : Fl} (h0 : inFl f0 = true) (h1 : inFl f1 = true) : fix Tb md 366 [sMach st (row fB es) (row fMove l) f0 f1, I s, B d, I n] = some ⟨[I (mvOf l s d n)], [], none⟩ := by
 obtain ⟨T, hT⟩ := nm (mvOf l s d n)
 rw [← hT]
 generalize hr : (⟨_, [], none⟩ : Ret) = r
 obtain ⟨ea, hea⟩ := nm (row fMove l)
 obtain ⟨eb, heb⟩ := nm (row fB es)
 rw [← hea, ← heb]
 have fin : ∀ v, T = v → some (⟨[I v], [], none⟩ : Ret) = some r := fun v e => by rw [← e, hr]
 refine fix_fn2 (fn := ir366) tb_366 rfl rfl (by decide) rfl ?_; intro Q hQ; simp only [shutArgs, shutS, List.map_cons, List.map_nil, ir366, shut_in h0, shut_in h1, List.head?_nil, reduceCtorEq, if_false, sExt, sHello, sAnswer, sEdit, sDeal, sBox, sDialed, sKnown, sMach, sMove]
 intro add sub mul arith eq ne lt le gt ge neg conv mn mx not beq len at' ln bd cut app allS isNil mks set o hP F ho
 have la := F.len_at hea
 cbv
 refine loop_ind2 hP (σ := List Move × List Move × Int × Option Move) (fun s' => match s'.2.2.2 with
    | none => [(0, sMach st eb ea .sh .sh), (1, I s), (2, B d), (3, I n), (4, ⟨.ptr 44 0, []⟩), (8, I 0), (9, I s'.2.2.1), (44, ⟨.box (), [⟨.int .i64 st, .sc⟩, ⟨.row () eb, .sh⟩, ⟨.row () ea, .sh⟩]⟩)]
    | some j => [(0, sMach st eb ea .sh .sh), (1, I s), (2, B d), (3, I n), (4, ⟨.ptr 44 0, []⟩), (8, I 0), (9, I s'.2.2.1), (10, ⟨.ptr 50 0, []⟩), (44, ⟨.box (), [⟨.int .i64 st, .sc⟩, ⟨.row () eb, .sh⟩, ⟨.row () ea, .sh⟩]⟩), (50, ⟨.box (), [⟨.int .i64 j.src, .sc⟩, ⟨.bool j.send, .sc⟩, ⟨.int .i64 j.msg, .sc⟩, ⟨.int .i64 j.dst, .sc⟩]⟩)]) (fun s' => At s'.2.2.1 s'.2.1.length ∧ l = s'.2.1 ++ s'.1 ∧ ixOf (isMv s d n) s'.1 (s'.2.1.length : Int) = T) (fun s' => s'.1.length) (l, [], 0, none) rfl ⟨rfl, rfl, hT.symm⟩ ?_
 intro c9 Q1 hc9 hQ1
 rintro ⟨suf, pre, i, j⟩ ⟨hi, hl', hb⟩ ih
 simp only at hi hl' hb ih
 cases suf with
 | nil =>
  have gl : lt i (len ea) = false := F.lt_f hi la (by simp [hl'])
  have hT2 : T = -1 := by rw [← hb]; rfl
  clear ih
  rcases j with _ | ⟨j1, j2, j3, j4⟩
  all_goals
   cbv
   rw [gl]; cbv
   rw [hQ1]; cbv
   rw [hQ]; cbv
   exact fin _ hT2
 | cons x suf =>
  obtain ⟨x1, x2, x3, x4⟩ := x
  have gl : lt i (len ea) = true := F.lt_t hi la (by simp [hl'])
  obtain ⟨ix, hix⟩ := nm (pre.length * 4)
  have hpre : pre.length ≤ 1073741824 := by rw [hl'] at hl; simp at hl; omega
  have hi' : At (add .i64 i 1) (pre ++ [(⟨x1, x2, x3, x4⟩ : Move)]).length := at_len (F.inc hi (by omega)) (by simp)
  have hl2 : l = (pre ++ [⟨x1, x2, x3, x4⟩]) ++ suf := by rw [hl']; simp
  have r1 : at' 4 ea i = some (ix, [.int .i64 x1, .bool x2, .int .i64 x3, .int .i64 x4]) := by rw [hix]; exact F.get hi hea hl' (fun _ => rfl) (by decide)
  have g1 : eq x1 s = decide (x1 = s) := F.eq ..
  have g2 : beq x2 d = decide (x2 = d) := F.beq ..
  have g3 : eq x3 n = decide (x3 = n) := F.eq ..
  obtain ⟨v1, hv1⟩ := nm (decide (x1 = s))
  obtain ⟨v2, hv2⟩ := nm (decide (x2 = d))
  obtain ⟨v3, hv3⟩ := nm (decide (x3 = n))
  rw [← hv1] at g1
  rw [← hv2] at g2
  rw [← hv3] at g3
  have hmv : isMv s d n ⟨x1, x2, x3, x4⟩ = (v1 && v2 && v3) := by rw [hv1, hv2, hv3]; rfl
  unfold ixOf at hb
  rw [hmv] at hb
  have ihF : ∀ j, (v1 && v2 && v3) = false → _ := fun j q => ih (suf, pre ++ [⟨x1, x2, x3, x4⟩], add .i64 i 1, j) ⟨hi', hl2, by
   rw [q, if_neg (by decide)] at hb
   rw [← hb]; simp⟩ (by simp)
  have hTt : (v1 && v2 && v3) = true → T = i := fun q => by
   rw [q, if_pos rfl] at hb
   rw [← hb]; exact hi.symm
  clear ih
  rcases j with _ | ⟨j1, j2, j3, j4⟩
  all_goals
   cbv
   rw [gl]; cbv
   rw [r1]; cbv
   rw [g1]
   refine both (fun d1 => ?_) (fun d1 => ?_) <;> rw [d1] <;> cbv
   ·rw [g2]
    refine both (fun d2 => ?_) (fun d2 => ?_) <;> rw [d2] <;> cbv
    ·rw [g3]
     refine both (fun d3 => ?_) (fun d3 => ?_) <;> rw [d3] <;> cbv
     ·rw [hQ1]; cbv
      rw [hQ]; cbv
      exact fin _ (hTt (by rw [d1, d2, d3]; rfl))
     ·exact ihF (some ⟨x1, x2, x3, x4⟩) (by rw [d1, d2, d3]; rfl)
    ·exact ihF (some ⟨x1, x2, x3, x4⟩) (by rw [d1, d2]; rfl)
   ·exact ihF (some ⟨x1, x2, x3, x4⟩) (by rw [d1]; rfl)
theorem ok3361 (c : Cur) (q : c.Ok) : fix Tb md 3361 [sCur (row fU c.b) (.sp 0 0) c.ii c.h] = some ⟨[I (byteV c)], [], some (vCur (row fU c.b) (byteC c).ii (byteC c).h)⟩ := by
 obtain ⟨b, i, h⟩ := c
 have q1 := q.1
 have q2 := q.2
 simp only at q1 q2
 obtain ⟨h1, hh1⟩ := nm (w64 (h * 6364136223846793005))
 obtain ⟨h2, hh2⟩ := nm (w64 (h1 + 1442695040888963407))
 have hh3 : stepH h = h2 := by unfold stepH; rw [← hh1, ← hh2]
 obtain ⟨s1, hs1⟩ := nm (shrI h2 33)
 obtain ⟨s2, hs2⟩ := nm (shrI h2 47)
 obtain ⟨x1, hx1⟩ := nm (bitI .xor s1 s2)
 obtain ⟨x2, hx2⟩ := nm (bitI .and x1 255)
 have hm : mixH h2 = x2 := by unfold mixH; rw [← hs1, ← hs2, ← hx1, ← hx2]
 obtain ⟨ii, hii⟩ := nm ((i : Int))
 have r2 := and255 x1
 rw [← hx2] at r2
 suffices hmain : ∀ r, (∀ x, b[i]? = some x → (⟨[I (bitI .and (w64 (x2 + w64 x)) 255)], [], some (vCur (row fU b) (ii + 1) h2)⟩ : Ret) = r) → (b[i]? = none → (⟨[I x2], [], some (vCur (row fU b) ii h2)⟩ : Ret) = r) → fix Tb md 3361 [sCur (row fU b) (.sp 0 0) ii h] = some r by
  rw [hii] at hmain
  refine hmain _ (fun x hx => ?_) (fun hx => ?_)
  ·unfold byteV byteC; simp only [hx, hh3, hm]; simp [Cur.ii]
  ·unfold byteV byteC; simp only [hx, hh3, hm, Cur.ii]
 intro r rA rB
 obtain ⟨eb, heb⟩ := nm (row fU b)
 rw [← heb] at rA rB ⊢
 refine fix_bx (fn := ir3361) tb_3361 rfl rfl rfl (by decide) ?_; intro Q hQ; simp only [List.map_nil, ir3361]
 intro add sub mul arith eq ne lt le gt ge neg conv mn mx not beq len at' ln bd cut app allS isNil mks set o hP F ho
 have lb := F.len_at heb
 have hi : At ii i := hii
 have g1 : mul .i64 h 6364136223846793005 = h1 := by rw [F.mul, hh1]; rfl
 have g2 : add .i64 h1 1442695040888963407 = h2 := by rw [F.add, hh2]; rfl
 have g3 : arith .shr .i64 h2 33 = some (.int .i64 s1) := by rw [F.arith, hs1]; rfl
 have g4 : arith .shr .i64 h2 47 = some (.int .i64 s2) := by rw [F.arith, hs2]; rfl
 have g5 : arith .xor .i64 s1 s2 = some (.int .i64 x1) := by rw [F.arith, hx1]; rfl
 have g6 : arith .and .i64 x1 255 = some (.int .i64 x2) := by rw [F.arith, hx2]; rfl
 cbv
 rw [g1, g2]; cbv
 rw [g3]; cbv
 rw [g4]; cbv
 rw [g5]; cbv
 rw [g6]; cbv
 by_cases hlt : i < b.length
 ·obtain ⟨pre, x, suf, hb, hp⟩ : ∃ pre x suf, b = pre ++ x :: suf ∧ pre.length = i := ⟨b.take i, b[i], b.drop (i + 1), by simp, by simp; omega⟩
  have hx : b[i]? = some x := by rw [hb, ← hp]; simp
  obtain ⟨ix, hix⟩ := nm (pre.length * 1)
  have p0 : at' 1 eb ii = some (ix, [.int .u8 x]) := by rw [hix]; exact F.get (by rw [hp]; exact hi) heb hb (fun _ => rfl) (by decide)
  obtain ⟨y, hy⟩ := nm (w64 x)
  obtain ⟨x3, hx3⟩ := nm (w64 (x2 + y))
  obtain ⟨x4, hx4⟩ := nm (bitI .and x3 255)
  have g7 : conv .i64 x = y := by rw [F.conv, hy]; rfl
  have g8 : add .i64 x2 y = x3 := by rw [F.add, hx3]; rfl
  have g9 : arith .and .i64 x3 255 = some (.int .i64 x4) := by rw [F.arith, hx4]; rfl
  have hb0 : 0 ≤ ii ∧ ii ≤ 1048576 := by
   rw [hii]
   exact ⟨Int.natCast_nonneg i, Int.ofNat_le.2 (Nat.le_trans q1 q2)⟩
  have g10 : add .i64 ii 1 = ii + 1 := by rw [F.add, wrap64 (by omega) (by omega)]
  rw [F.lt_t hi lb hlt]; cbv
  rw [p0]; cbv
  rw [g7, g8]; cbv
  rw [g9]; cbv
  rw [g10, hQ]; cbv
  exact congrArg some (by rw [hx4, hx3, hy]; exact rA x hx)
 ·rw [F.lt_f hi lb (by omega)]; cbv
  rw [hQ]; cbv
  exact congrArg some (rB (List.getElem?_eq_none (by omega)))
end Go.Vm
