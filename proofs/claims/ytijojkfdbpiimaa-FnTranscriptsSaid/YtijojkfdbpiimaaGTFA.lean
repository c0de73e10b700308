/- What the functions answer. -/
import Derived.Test.YtijojkfdbpiimaaGTTab
set_option maxHeartbeats 4000000
set_option maxRecDepth 10000
set_option linter.unusedVariables false
set_option linter.unusedSimpArgs false
namespace Go.Vm
theorem share2 {P G C : Prop} (main : (P → G) → C) (proof : P → G) : C := main proof
theorem fix_bx {T : Nat → Option FnIr} {md : Modes} {g : Nat} {fn : FnIr} (hT : T g = some fn) (hsp : fn.sp = 0) (hm : fn.modes = [.mbox]) {cs : List (Cell Unit)} {rest : List SU} (hlen : rest.length + 1 = fn.np) (hle : fn.np ≤ fn.ntmps) {r : Ret}
  (hw : ∀ Q, Q = finQ fn (⟨.box (), cs⟩ :: rest.map shutS) (2 * fn.ntmps + 2) r → Sym (fun P O => wpc P O md fn.ntmps (2 * fn.ntmps + 2) fn.body (enumS 0 (⟨.ptr (lockS fn.ntmps + 1) 0, []⟩ :: rest.map shutS) ++ [(lockS fn.ntmps + 1, ⟨.box (), cs⟩)]) Q) (fix T md)) : fix T md g (⟨.box (), cs⟩ :: rest) = some r := by
 have hs : shutArgs fn.modes (⟨.box (), cs⟩ :: rest) = ⟨.box (), cs⟩ :: rest.map shutS := by rw [hm]; rfl
 refine fix_wp hT hsp (by simpa using hlen) hle (m := enumS 0 (⟨.ptr (lockS fn.ntmps + 1) 0, []⟩ :: rest.map shutS) ++ [(lockS fn.ntmps + 1, ⟨.box (), cs⟩)]) ?_ ?_
 ·rw [hs]; exact start_box (by simpa using hlen) hle
 ·rw [hs]; exact (hw _ rfl).at
structure Cur where
 b : List Int
 i : Nat
 h : Int
def Cur.ii (c : Cur) : Int := (c.i : Int)
def Cur.Ok (c : Cur) : Prop := c.i ≤ c.b.length ∧ c.b.length ≤ 1048576
def fU (n : Int) : List V := [.int .u8 n]
abbrev sCur (eb : List (List V)) (f : Fl) (i h : Int) : SU := ⟨.box (), [⟨.row () eb, f⟩, ⟨.int .i64 i, .sc⟩, ⟨.int .i64 h, .sc⟩]⟩
abbrev vCur (eb : List (List V)) (i h : Int) : List V := [.row () eb, .int .i64 i, .int .i64 h]
def w64 (n : Int) : Int := IntKind.wrap .i64 n
def shrI (x : Int) (k : Nat) : Int := x.fdiv (2 ^ k)
def bitI (op : BinOp) (x y : Int) : Int := match binInt op .i64 x y with | some (.int _ n) => n | _ => 0
def stepH (h : Int) : Int := w64 (w64 (h * 6364136223846793005) + 1442695040888963407)
def mixH (h : Int) : Int := bitI .and (bitI .xor (shrI h 33) (shrI h 47)) 255
def byteV (c : Cur) : Int := match c.b[c.i]? with | some x => bitI .and (w64 (mixH (stepH c.h) + w64 x)) 255 | none => mixH (stepH c.h)
def byteC (c : Cur) : Cur := ⟨c.b, match c.b[c.i]? with | some _ => c.i + 1 | none => c.i, stepH c.h⟩
theorem byteC_ok {c : Cur} (q : c.Ok) : (byteC c).Ok := by
 unfold Cur.Ok byteC at *
 simp only
 split
 ·rename_i x hx
  have := (List.getElem?_eq_some_iff.1 hx).1
  omega
 ·exact q
theorem and255 (x : Int) : 0 ≤ bitI .and x 255 ∧ bitI .and x 255 ≤ 255 := by
 have h1 : (BitVec.ofInt 64 x &&& BitVec.ofInt 64 255).toNat ≤ 255 := by
  rw [BitVec.toNat_and]
  exact Nat.and_le_right
 have e : bitI .and x 255 = IntKind.wrap .i64 ((BitVec.ofInt 64 x &&& BitVec.ofInt 64 255).toNat) := rfl
 rw [e, wrap64 (by omega) (by omega)]
 omega
theorem byteV_in (c : Cur) : 0 ≤ byteV c ∧ byteV c ≤ 255 := by
 unfold byteV; split
 ·exact and255 _
 ·exact and255 _
def belowV (n : Int) (c : Cur) : Int := Int.tmod (byteV c) n
theorem belowV_in {n : Int} {c : Cur} (h : 0 < n) : 0 ≤ belowV n c ∧ belowV n c < n := by
 have := byteV_in c
 unfold belowV
 rw [Int.tmod_eq_emod_of_nonneg this.1]
 exact ⟨Int.emod_nonneg _ (by omega), Int.emod_lt_of_pos _ h⟩
def onceV (n : Int) (c : Cur) : Bool := decide (belowV n c = 0)
def intV (l : List Int) (c : Cur) : Int := l.getD (belowV l.length c).toNat 0
theorem intV_mem {l : List Int} {c : Cur} (h : l ≠ []) : intV l c ∈ l := by
 have h0 : 0 < l.length := List.length_pos_iff.2 h
 have := belowV_in (n := l.length) (c := c) (by omega)
 unfold intV
 rw [List.getD_eq_getElem?_getD, List.getElem?_eq_getElem (by omega)]
 exact List.getElem_mem _
theorem ok108 (l : List Int) {f0 : Fl} (q0 : inFl f0 = true) : fix Tb md 108 [R (row fU l) f0] = some ⟨[B (decide (1048576 < l.length))], [], none⟩ := by
 obtain ⟨v, hv⟩ := nm (decide (1048576 < l.length))
 rw [← hv]
 generalize hr : (⟨_, [], none⟩ : Ret) = r
 obtain ⟨ea, hea⟩ := nm (row fU l)
 rw [← hea]
 refine fix_fn2 (fn := ir108) tb_108 rfl rfl (by decide) rfl ?_; intro Q hQ; simp only [shutArgs, shutS, List.map_cons, List.map_nil, ir108, shut_in q0, List.head?_nil, reduceCtorEq, if_false, sExt, sHello, sAnswer, sEdit, sDeal, sBox, sDialed, sKnown]
 intro add sub mul arith eq ne lt le gt ge neg conv mn mx not beq len at' ln bd cut app allS isNil mks set o hP F ho
 have la := F.len_at hea
 have g1 : gt (len ea) 1048576 = v := by rw [hv]; exact F.gt_n la (k := 1048576) (m := 1048576) rfl
 cbv
 rw [g1, hQ]; cbv
 exact congrArg some hr
theorem ok230 (n lo hi : Int) : fix Tb md 230 [I n, I lo, I hi] = some ⟨[B (inR n lo hi)], [], none⟩ := by
 refine fix_fn (fn := ir230) tb_230 rfl rfl (by decide) rfl ?_; simp only [shutArgs, shutS, List.map_cons, List.map_nil, ir230, List.head?_nil, reduceCtorEq, if_false, sExt, sHello, sAnswer, sEdit, sDeal, sBox, sDialed, sKnown]
 generalize hr : (⟨_, [], none⟩ : Ret) = r
 intro add sub mul arith eq ne lt le gt ge neg conv mn mx not beq len at' ln bd cut app allS isNil mks set o hP F ho
 cbv
 repeat' (refine both (fun c => ?_) (fun c => ?_) <;> (try rw [c]) <;> (try cbv))
 all_goals (simp only [F.le, F.ge, F.lt, F.gt] at *; subst hr; (try simp_all [inR]) <;> (try omega))
def modV (n m : Int) : Int := if inR m 1 1000000000000 = true then Int.tmod (IntKind.wrap .i64 (Int.tmod n m + m)) m else 0
theorem rem_nz {n m : Int} (h : m ≠ 0) : std.arith .rem .i64 n m = some (.int .i64 (Int.tmod n m)) := by
 show (if m = 0 then none else some (VA.int .i64 (Int.tmod n m))) = _
 rw [if_neg h]
theorem ok348 (n m : Int) : fix Tb md 348 [I n, I m] = some ⟨[I (modV n m)], [], none⟩ := by
 obtain ⟨T, hT⟩ := nm (modV n m)
 rw [← hT]
 generalize hr : (⟨_, [], none⟩ : Ret) = r
 obtain ⟨v, hv⟩ := nm (inR m 1 1000000000000)
 refine fix_fn2 (fn := ir348) tb_348 rfl rfl (by decide) rfl ?_; intro Q hQ; simp only [shutArgs, shutS, List.map_cons, List.map_nil, ir348, List.head?_nil, reduceCtorEq, if_false, sExt, sHello, sAnswer, sEdit, sDeal, sBox, sDialed, sKnown]
 intro add sub mul arith eq ne lt le gt ge neg conv mn mx not beq len at' ln bd cut app allS isNil mks set o hP F ho
 have c1 : o 230 [I m, I 1, I 1000000000000] = some ⟨[B v], [], none⟩ := by rw [ho, hv]; exact ok230 ..
 cbv
 rw [c1]; cbv
 refine both (fun d1 => ?_) (fun d1 => ?_) <;> rw [d1] <;> cbv
 ·rw [hQ]; cbv
  have hv0 := F.not_t d1
  rw [← hr, hT]; unfold modV; rw [← hv, hv0]; rfl
 have hv1 := F.not_f d1
 have hm : m ≠ 0 := by rw [hv] at hv1; simp [inR] at hv1; omega
 obtain ⟨n1, hn1⟩ := nm (Int.tmod n m)
 obtain ⟨n2, hn2⟩ := nm (add .i64 n1 m)
 obtain ⟨n3, hn3⟩ := nm (Int.tmod n2 m)
 rw [show arith .rem .i64 n m = some (.int .i64 n1) by rw [F.arith, hn1]; exact rem_nz hm]; cbv
 rw [← hn2]
 rw [show arith .rem .i64 n2 m = some (.int .i64 n3) by rw [F.arith, hn3]; exact rem_nz hm]; cbv
 rw [hQ]; cbv
 rw [← hr, hT]; unfold modV; rw [← hv, hv1, if_pos rfl, hn3, hn2, hn1, F.add]
def hstep (d x : Int) : Int := Int.tmod (IntKind.wrap .i64 (IntKind.wrap .i64 (IntKind.wrap .i64 (d * 1000003) + modV x 2147483647) + 13)) 2147483647
def hashV (l : List Int) : Int := l.foldl hstep 11
theorem ok268 (l : List Int) (hl : l.length ≤ 1099511627776) {f0 : Fl} (h0 : inFl f0 = true) : fix Tb md 268 [R (row fI l) f0] = some ⟨[I (hashV l)], [], none⟩ := by
 obtain ⟨T, hT⟩ := nm (hashV l)
 rw [← hT]
 generalize hr : (⟨_, [], none⟩ : Ret) = r
 obtain ⟨ea, hea⟩ := nm (row fI l)
 rw [← hea]
 refine fix_fn2 (fn := ir268) tb_268 rfl rfl (by decide) rfl ?_; intro Q hQ; simp only [shutArgs, shutS, List.map_cons, List.map_nil, ir268, shut_in h0, List.head?_nil, reduceCtorEq, if_false, sExt, sHello, sAnswer, sEdit, sDeal, sBox, sDialed, sKnown]
 intro add sub mul arith eq ne lt le gt ge neg conv mn mx not beq len at' ln bd cut app allS isNil mks set o hP F ho
 have la := F.len_at hea
 cbv
 refine loop_ind2 hP (σ := List Int × List Int × Int × Int) (fun s => [(0, R ea .sh), (2, I 0), (3, I s.2.2.1), (4, I s.2.2.2)]) (fun s => At s.2.2.2 s.2.1.length ∧ l = s.2.1 ++ s.1 ∧ s.1.foldl hstep s.2.2.1 = T) (fun s => s.1.length) (l, [], 11, 0) rfl ⟨rfl, rfl, hT.symm⟩ ?_
 intro c1 Q1 hc1 hQ1
 rintro ⟨suf, pre, d, i⟩ ⟨hi, hl', hb⟩ ih
 simp only at hi hl' hb ih
 cbv
 cases suf with
 | nil =>
  rw [F.lt_f hi la (by simp [hl'])]; cbv
  rw [hQ1]; cbv
  rw [hQ]; cbv
  rw [← hr, ← hb]; rfl
 | cons x suf =>
  rw [List.foldl_cons] at hb
  rw [F.lt_t hi la (by simp [hl'])]; cbv
  obtain ⟨ix, hix⟩ := nm (pre.length * 1)
  rw [show at' 1 ea i = some (ix, [.int .i64 x]) by rw [hix]; exact F.get hi hea hl' (fun _ => rfl) (by decide)]; cbv
  obtain ⟨v, hv⟩ := nm (modV x 2147483647)
  rw [show o 348 [I x, I 2147483647] = some ⟨[I v], [], none⟩ by rw [ho, hv]; exact ok348 ..]; cbv
  obtain ⟨d', hd'⟩ := nm (hstep d x)
  rw [show arith .rem .i64 (add .i64 (add .i64 (mul .i64 d 1000003) v) 13) 2147483647 = some (.int .i64 d') by rw [F.arith, hd', F.add, F.add, F.mul]; unfold hstep; rw [← hv]; exact rem_nz (by decide)]; cbv
  rw [← hd'] at hb
  refine ih (suf, pre ++ [x], d', add .i64 i 1) ⟨at_len (F.inc hi (by simp [hl'] at hl; omega)) (by simp), by simp [hl'], hb⟩ (by simp)
theorem ok231 (l : List Int) (hl : l.length ≤ 1099511627776) {f0 : Fl} (h0 : inFl f0 = true) : fix Tb md 231 [R (row fI l) f0] = some ⟨[B (bytes l)], [], none⟩ := by
 refine fix_fn (fn := ir231) tb_231 rfl rfl (by decide) rfl ?_; simp only [shutArgs, shutS, List.map_cons, List.map_nil, ir231, shut_in h0, List.head?_nil, reduceCtorEq, if_false, sExt, sHello, sAnswer, sEdit, sDeal, sBox, sDialed, sKnown]
 generalize hr : (⟨_, [], none⟩ : Ret) = r
 obtain ⟨ea, hea⟩ := nm (row fI l)
 rw [← hea]
 intro add sub mul arith eq ne lt le gt ge neg conv mn mx not beq len at' ln bd cut app allS isNil mks set o hP F ho
 have la := F.len_at hea
 cbv
 refine loop_ind hP (σ := List Int × List Int × Int) (fun s => [(0, R ea .sh), (2, B false), (3, I s.2.2)]) (fun s => At s.2.2 s.1.length ∧ l = s.1 ++ s.2.1 ∧ bytes s.1 = true) (fun s => s.2.1.length) ([], l, 0) rfl ⟨rfl, rfl, rfl⟩ ?_
 rintro ⟨pre, suf, i⟩ ⟨hi, hl', hb⟩ ih
 simp only at hi hl' hb ih
 cbv
 cases suf with
 | nil =>
  rw [F.lt_f hi la (by simp [hl'])]; cbv
  rw [← hr, hl']; simp [hb]
 | cons x suf =>
  rw [F.lt_t hi la (by simp [hl'])]; cbv
  obtain ⟨ix, hix⟩ := nm (pre.length * 1)
  rw [show at' 1 ea i = some (ix, [.int .i64 x]) by rw [hix]; exact F.get hi hea hl' (fun _ => rfl) (by decide)]; cbv
  obtain ⟨v, hv⟩ := nm (inR x 0 255)
  rw [show o 230 [I x, I 0, I 255] = some ⟨[B v], [], none⟩ by rw [ho, hv]; exact ok230 x 0 255]; cbv
  refine both (fun c => ?_) (fun c => ?_) <;> rw [c] <;> cbv
  ·rw [← hr, hl']
   rw [F.not] at c
   simp [bytes] at *
   simp_all
  ·rw [F.not] at c
   simp at c
   refine ih (pre ++ [x], suf, add .i64 i 1) ⟨at_len (F.inc hi (by simp [hl'] at hl; omega)) (by simp), by simp [hl'], ?_⟩ (by simp)
   simp [bytes] at *
   simp_all
def isTr (l : List (List Int)) : Bool := l.all bytes && decide (l.length ≤ 12)
theorem ok71 (l : List (List Int)) (w : l.length ≤ 1048576 ∧ ∀ y ∈ l, y.length ≤ 1048576) {f0 : Fl} (h0 : inFl f0 = true) : fix Tb md 71 [R (row fR l) f0] = some ⟨[B (isTr l)], [], none⟩ := by
 have w1 := w.1
 refine fix_fn (fn := ir71) tb_71 rfl rfl (by decide) rfl ?_; simp only [shutArgs, shutS, List.map_cons, List.map_nil, ir71, shut_in h0, List.head?_nil, reduceCtorEq, if_false, sExt, sHello, sAnswer, sEdit, sDeal, sBox, sDialed, sKnown]
 generalize hr : (⟨_, [], none⟩ : Ret) = r
 obtain ⟨ea, hea⟩ := nm (row fR l)
 rw [← hea]
 intro add sub mul arith eq ne lt le gt ge neg conv mn mx not beq len at' ln bd cut app allS isNil mks set o hP F ho
 have la := F.len_at hea
 cbv
 refine loop_ind hP (σ := List (List Int) × List (List Int) × Int) (fun s => [(0, R ea .sh), (2, B false), (3, I s.2.2)]) (fun s => At s.2.2 s.1.length ∧ l = s.1 ++ s.2.1 ∧ s.1.all bytes = true) (fun s => s.2.1.length) ([], l, 0) rfl ⟨rfl, rfl, rfl⟩ ?_
 rintro ⟨pre, suf, i⟩ ⟨hi, hl', hb⟩ ih
 simp only at hi hl' hb ih
 cbv
 cases suf with
 | nil =>
  rw [F.lt_f hi la (by simp [hl'])]; cbv
  have h12 : le (len ea) 12 = decide (l.length ≤ 12) := by unfold At at la; rw [F.le, la]; simp; omega
  have hall : l.all bytes = true := by rw [hl', List.append_nil]; exact hb
  rw [h12, ← hr, isTr, hall, Bool.true_and]
 | cons x suf =>
  rw [F.lt_t hi la (by simp [hl'])]; cbv
  obtain ⟨ix, hix⟩ := nm (pre.length * 1)
  obtain ⟨e1, he1⟩ := nm (row fI x)
  rw [show at' 1 ea i = some (ix, [.row () e1]) by rw [hix, he1]; exact F.get hi hea hl' (fun _ => rfl) (by decide)]; cbv
  obtain ⟨v, hv⟩ := nm (bytes x)
  rw [show o 231 [R e1 (.sp 0 0)] = some ⟨[B v], [], none⟩ by rw [ho, hv, he1]; exact ok231 x (by have := w.2 x (by rw [hl']; simp); omega) rfl]; cbv
  refine both (fun c => ?_) (fun c => ?_) <;> rw [c] <;> cbv
  ·rw [← hr, hl']
   rw [F.not] at c
   simp [isTr] at *
   simp_all
  ·rw [F.not] at c
   simp at c
   refine ih (pre ++ [x], suf, add .i64 i 1) ⟨at_len (F.inc hi (by simp [hl'] at w1; omega)) (by simp), by simp [hl'], ?_⟩ (by simp)
   rw [List.all_append, hb]
   simp [← hv, c]
def hcons (h : Int) (b : List Int) : Int := hashV (h :: (b.length : Int) :: b)
def thash (l : List (List Int)) : Int := if isTr l = true then l.foldl hcons 1 else 0
theorem ok120 (l : List (List Int)) (w : l.length ≤ 1048576 ∧ ∀ y ∈ l, y.length ≤ 1048576) {f0 : Fl} (h0 : inFl f0 = true) : fix Tb md 120 [R (row fR l) f0] = some ⟨[I (thash l)], [], none⟩ := by
 have w1 := w.1
 obtain ⟨T, hT⟩ := nm (thash l)
 rw [← hT]
 generalize hr : (⟨_, [], none⟩ : Ret) = r
 obtain ⟨ea, hea⟩ := nm (row fR l)
 rw [← hea]
 obtain ⟨u, hu⟩ := nm (isTr l)
 refine fix_fn2 (fn := ir120) tb_120 rfl rfl (by decide) rfl ?_; intro Q hQ; simp only [shutArgs, shutS, List.map_cons, List.map_nil, ir120, shut_in h0, List.head?_nil, reduceCtorEq, if_false, sExt, sHello, sAnswer, sEdit, sDeal, sBox, sDialed, sKnown]
 intro add sub mul arith eq ne lt le gt ge neg conv mn mx not beq len at' ln bd cut app allS isNil mks set o hP F ho
 have la := F.len_at hea
 have c1 : o 71 [R ea (.sp 0 0)] = some ⟨[B u], [], none⟩ := by rw [ho, hu, hea]; exact ok71 _ w rfl
 cbv
 rw [c1]; cbv
 refine both (fun d1 => ?_) (fun d1 => ?_) <;> rw [d1] <;> cbv
 ·rw [hQ]; cbv
  rw [← hr, hT]; unfold thash; rw [← hu, F.not_t d1]; rfl
 have hT' : T = l.foldl hcons 1 := by rw [hT]; unfold thash; rw [← hu, F.not_f d1]; rfl
 refine loop_ind2 hP (σ := List (List Int) × List (List Int) × Int × Int) (fun s => [(0, R ea .sh), (2, I 0), (3, I s.2.2.1), (4, I s.2.2.2)]) (fun s => At s.2.2.2 s.2.1.length ∧ l = s.2.1 ++ s.1 ∧ s.1.foldl hcons s.2.2.1 = T) (fun s => s.1.length) (l, [], 1, 0) rfl ⟨rfl, rfl, hT'.symm⟩ ?_
 intro c1 Q1 hc1 hQ1
 rintro ⟨suf, pre, d, i⟩ ⟨hi, hl', hb⟩ ih
 simp only at hi hl' hb ih
 cbv
 cases suf with
 | nil =>
  rw [F.lt_f hi la (by simp [hl'])]; cbv
  rw [hQ1]; cbv
  rw [hQ]; cbv
  rw [← hr, ← hb]; rfl
 | cons x suf =>
  have hx := w.2 x (by rw [hl']; simp)
  rw [List.foldl_cons] at hb
  obtain ⟨nx, hnx⟩ := nm ((x.length : Int))
  have hc : hcons d x = hashV (d :: nx :: x) := by rw [hnx]; rfl
  rw [F.lt_t hi la (by simp [hl'])]; cbv
  obtain ⟨ix, hix⟩ := nm (pre.length * 1)
  obtain ⟨e1, he1⟩ := nm (row fI x)
  have l1 : len e1 = nx := by rw [hnx]; exact F.len_at he1
  have p0 : at' 1 ea i = some (ix, [.row () e1]) := by rw [hix, he1]; exact F.get hi hea hl' (fun _ => rfl) (by decide)
  rw [p0]; cbv
  rw [l1]; cbv
  try (rw [p0]; cbv)
  try (rw [show allS e1 = true from F.scal he1 (fun _ => rfl)]; cbv)
  obtain ⟨e2, he2⟩ := nm (row fI (d :: nx :: x))
  rw [show app 1 [[.int .i64 d], [.int .i64 nx]] e1 = some e2 by rw [F.app' (f := fI) (e1 := [[.int .i64 d], [.int .i64 nx]]) (l1 := [d, nx]) rfl he1 (fun _ => rfl) (by simp; omega), he2]; rfl]; cbv
  obtain ⟨d', hd'⟩ := nm (hcons d x)
  rw [show o 268 [R e2 (.sp 0 0)] = some ⟨[I d'], [], none⟩ by rw [ho, hd', hc, he2]; exact ok268 _ (by simp; omega) rfl]; cbv
  rw [← hd'] at hb
  refine ih (suf, pre ++ [x], d', add .i64 i 1) ⟨at_len (F.inc hi (by simp [hl'] at w1; omega)) (by simp), by simp [hl'], hb⟩ (by simp)
def vKey (k : Int) : Bool := inR k 1 2147483646
theorem ok282 (k : Int) : fix Tb md 282 [I k] = some ⟨[B (vKey k)], [], none⟩ := by
 obtain ⟨a, ha⟩ := nm (vKey k)
 rw [← ha]
 generalize hr : (⟨_, [], none⟩ : Ret) = r
 refine fix_fn2 (fn := ir282) tb_282 rfl rfl (by decide) rfl ?_; intro Q hQ; simp only [shutArgs, shutS, List.map_cons, List.map_nil, ir282, List.head?_nil, reduceCtorEq, if_false, sExt, sHello, sAnswer, sEdit, sDeal, sBox, sDialed, sKnown]
 intro add sub mul arith eq ne lt le gt ge neg conv mn mx not beq len at' ln bd cut app allS isNil mks set o hP F ho
 have c1 : o 230 [I k, I 1, I 2147483646] = some ⟨[B a], [], none⟩ := by rw [ho, ha]; exact ok230 ..
 cbv
 rw [c1]; cbv
 rw [hQ]; cbv
 exact congrArg some hr
def khash (k : Int) (l : List Int) : Int := hashV (k :: l ++ [k])
theorem ok283 (k : Int) (l : List Int) (hl : l.length ≤ 1073741824) {f0 : Fl} (q0 : inFl f0 = true) : fix Tb md 283 [I k, R (row fI l) f0] = some ⟨[I (khash k l)], [], none⟩ := by
 obtain ⟨T, hT⟩ := nm (khash k l)
 rw [← hT]
 generalize hr : (⟨_, [], none⟩ : Ret) = r
 obtain ⟨ea, hea⟩ := nm (row fI l)
 rw [← hea]
 obtain ⟨e1, he1⟩ := nm (row fI (k :: l))
 obtain ⟨e2, he2⟩ := nm (row fI (k :: l ++ [k]))
 refine fix_fn2 (fn := ir283) tb_283 rfl rfl (by decide) rfl ?_; intro Q hQ; simp only [shutArgs, shutS, List.map_cons, List.map_nil, ir283, shut_in q0, List.head?_nil, reduceCtorEq, if_false, sExt, sHello, sAnswer, sEdit, sDeal, sBox, sDialed, sKnown]
 intro add sub mul arith eq ne lt le gt ge neg conv mn mx not beq len at' ln bd cut app allS isNil mks set o hP F ho
 have p1 : app 1 [[.int .i64 k]] ea = some e1 := by rw [he1]; exact F.app' (f := fI) (k := 1) (e1 := [[.int .i64 k]]) (l1 := [k]) rfl hea (fun _ => rfl) (by simp; omega)
 have p2 : app 1 e1 [[.int .i64 k]] = some e2 := by rw [he2]; exact F.app' (f := fI) (k := 1) (e2 := [[.int .i64 k]]) (l2 := [k]) he1 rfl (fun _ => rfl) (by simp; omega)
 have p3 : allS ea = true := F.scal hea (fun _ => rfl)
 have p4 : allS [[.int .i64 k]] = true := by rw [F.allS]; rfl
 have c1 : o 268 [R e2 (.sp 0 0)] = some ⟨[I T], [], none⟩ := by rw [ho, he2, hT]; exact ok268 _ (by simp; omega) rfl
 cbv
 rw [p3]; cbv
 rw [p1]; cbv
 rw [p4]; cbv
 rw [p2]; cbv
 rw [c1]; cbv
 rw [hQ]; cbv
 exact congrArg some hr
def finV (k : Int) (l : List (List Int)) (s : Int) : Int := if vKey k && isTr l && inR s 0 1 then khash k [s, thash l] else 0
def chkV (k : Int) (l : List (List Int)) (s f : Int) : Bool := !decide (f = 0) && decide (finV k l s = f)
theorem ok143 (k : Int) (l : List (List Int)) (s : Int) (w : l.length ≤ 1048576 ∧ ∀ y ∈ l, y.length ≤ 1048576) {f0 : Fl} (q0 : inFl f0 = true) : fix Tb md 143 [I k, R (row fR l) f0, I s] = some ⟨[I (finV k l s)], [], none⟩ := by
 obtain ⟨a, ha⟩ := nm (vKey k)
 obtain ⟨b, hb⟩ := nm (isTr l)
 obtain ⟨c, hc⟩ := nm (inR s 0 1)
 obtain ⟨n, hn⟩ := nm (thash l)
 obtain ⟨m, hm⟩ := nm (khash k [s, n])
 rw [show finV k l s = if a && b && c then m else 0 by rw [ha, hb, hc, hm, hn]; rfl]
 generalize hr : (⟨_, [], none⟩ : Ret) = r
 obtain ⟨el, hel⟩ := nm (row fR l)
 rw [← hel]
 refine fix_fn2 (fn := ir143) tb_143 rfl rfl (by decide) rfl ?_; intro Q hQ; simp only [shutArgs, shutS, List.map_cons, List.map_nil, ir143, shut_in q0, List.head?_nil, reduceCtorEq, if_false, sExt, sHello, sAnswer, sEdit, sDeal, sBox, sDialed, sKnown]
 intro add sub mul arith eq ne lt le gt ge neg conv mn mx not beq len at' ln bd cut app allS isNil mks set o hP F ho
 have c1 : o 282 [I k] = some ⟨[B a], [], none⟩ := by rw [ho, ha]; exact ok282 ..
 have c2 : o 71 [R el (.sp 0 0)] = some ⟨[B b], [], none⟩ := by rw [ho, hb, hel]; exact ok71 _ w rfl
 have c3 : o 230 [I s, I 0, I 1] = some ⟨[B c], [], none⟩ := by rw [ho, hc]; exact ok230 ..
 have c4 : o 120 [R el (.sp 0 0)] = some ⟨[I n], [], none⟩ := by rw [ho, hn, hel]; exact ok120 _ w rfl
 have c5 : o 283 [I k, R [[.int .i64 s], [.int .i64 n]] (.sp 1 0)] = some ⟨[I m], [], none⟩ := by rw [ho, hm]; exact ok283 k [s, n] (by simp) rfl
 cbv
 rw [c1]; cbv
 refine both (fun d1 => ?_) (fun d1 => ?_) <;> rw [d1] <;> cbv
 ·rw [hQ]; cbv
  rw [← hr, F.not_t d1]; rfl
 rw [c2]; cbv
 refine both (fun d2 => ?_) (fun d2 => ?_) <;> rw [d2] <;> cbv
 ·rw [hQ]; cbv
  rw [← hr, F.not_f d1, F.not_t d2]; rfl
 rw [c3]; cbv
 refine both (fun d3 => ?_) (fun d3 => ?_) <;> rw [d3] <;> cbv
 ·rw [hQ]; cbv
  rw [← hr, F.not_f d1, F.not_f d2, F.not_t d3]; rfl
 rw [c4]; cbv
 rw [c5]; cbv
 rw [hQ]; cbv
 rw [← hr, F.not_f d1, F.not_f d2, F.not_f d3]; rfl
theorem ok232 (x lo hi : Int) : fix Tb md 232 [I x, I lo, I hi] = some ⟨[B (inR x lo hi)], [], none⟩ := by
 refine fix_fn (fn := ir232) tb_232 rfl rfl (by decide) rfl ?_; simp only [shutArgs, shutS, List.map_cons, List.map_nil, ir232, List.head?_nil, reduceCtorEq, if_false, sExt, sHello, sAnswer, sEdit, sDeal, sBox, sDialed, sKnown]
 generalize hr : (⟨_, [], none⟩ : Ret) = r
 intro add sub mul arith eq ne lt le gt ge neg conv mn mx not beq len at' ln bd cut app allS isNil mks set o hP F ho
 cbv
 repeat' (first | (refine both (fun c => ?_) (fun c => ?_) <;> (try rw [c]) <;> (try cbv)))
 all_goals (clear hP  ho; try simp only [F.eq, F.ne, F.le, F.lt, F.ge, F.gt, F.not, F.beq] at *; clear F; subst hr)
 all_goals (simp_all [inR] <;> (intros; omega))
theorem ok114 (k : Int) : fix Tb md 114 [I k] = some ⟨[B (vKey k)], [], none⟩ := by
 obtain ⟨a, ha⟩ := nm (vKey k)
 rw [← ha]
 generalize hr : (⟨_, [], none⟩ : Ret) = r
 refine fix_fn2 (fn := ir114) tb_114 rfl rfl (by decide) rfl ?_; intro Q hQ; simp only [shutArgs, shutS, List.map_cons, List.map_nil, ir114, List.head?_nil, reduceCtorEq, if_false, sExt, sHello, sAnswer, sEdit, sDeal, sBox, sDialed, sKnown]
 intro add sub mul arith eq ne lt le gt ge neg conv mn mx not beq len at' ln bd cut app allS isNil mks set o hP F ho
 have c1 : o 232 [I k, I 1, I 2147483646] = some ⟨[B a], [], none⟩ := by rw [ho, ha]; exact ok232 ..
 cbv
 rw [c1]; cbv
 rw [hQ]; cbv
 exact congrArg some hr
theorem ok349 (n m : Int) : fix Tb md 349 [I n, I m] = some ⟨[I (modV n m)], [], none⟩ := by
 obtain ⟨T, hT⟩ := nm (modV n m)
 rw [← hT]
 generalize hr : (⟨_, [], none⟩ : Ret) = r
 obtain ⟨v, hv⟩ := nm (inR m 1 1000000000000)
 refine fix_fn2 (fn := ir349) tb_349 rfl rfl (by decide) rfl ?_; intro Q hQ; simp only [shutArgs, shutS, List.map_cons, List.map_nil, ir349, List.head?_nil, reduceCtorEq, if_false, sExt, sHello, sAnswer, sEdit, sDeal, sBox, sDialed, sKnown]
 intro add sub mul arith eq ne lt le gt ge neg conv mn mx not beq len at' ln bd cut app allS isNil mks set o hP F ho
 have c1 : o 232 [I m, I 1, I 1000000000000] = some ⟨[B v], [], none⟩ := by rw [ho, hv]; exact ok232 ..
 cbv
 rw [c1]; cbv
 refine both (fun d1 => ?_) (fun d1 => ?_) <;> rw [d1] <;> cbv
 ·rw [hQ]; cbv
  have hv0 := F.not_t d1
  rw [← hr, hT]; unfold modV; rw [← hv, hv0]; rfl
 have hv1 := F.not_f d1
 have hm : m ≠ 0 := by rw [hv] at hv1; simp [inR] at hv1; omega
 obtain ⟨n1, hn1⟩ := nm (Int.tmod n m)
 obtain ⟨n2, hn2⟩ := nm (add .i64 n1 m)
 obtain ⟨n3, hn3⟩ := nm (Int.tmod n2 m)
 rw [show arith .rem .i64 n m = some (.int .i64 n1) by rw [F.arith, hn1]; exact rem_nz hm]; cbv
 rw [← hn2]
 rw [show arith .rem .i64 n2 m = some (.int .i64 n3) by rw [F.arith, hn3]; exact rem_nz hm]; cbv
 rw [hQ]; cbv
 rw [← hr, hT]; unfold modV; rw [← hv, hv1, if_pos rfl, hn3, hn2, hn1, F.add]
theorem ok269 (l : List Int) (hl : l.length ≤ 1099511627776) {f0 : Fl} (h0 : inFl f0 = true) : fix Tb md 269 [R (row fI l) f0] = some ⟨[I (hashV l)], [], none⟩ := by
 obtain ⟨T, hT⟩ := nm (hashV l)
 rw [← hT]
 generalize hr : (⟨_, [], none⟩ : Ret) = r
 obtain ⟨ea, hea⟩ := nm (row fI l)
 rw [← hea]
 refine fix_fn2 (fn := ir269) tb_269 rfl rfl (by decide) rfl ?_; intro Q hQ; simp only [shutArgs, shutS, List.map_cons, List.map_nil, ir269, shut_in h0, List.head?_nil, reduceCtorEq, if_false, sExt, sHello, sAnswer, sEdit, sDeal, sBox, sDialed, sKnown]
 intro add sub mul arith eq ne lt le gt ge neg conv mn mx not beq len at' ln bd cut app allS isNil mks set o hP F ho
 have la := F.len_at hea
 cbv
 refine loop_ind2 hP (σ := List Int × List Int × Int × Int × Option Int) (fun s => match s.2.2.2.2 with
   | none => [(0, R ea .sh), (2, I 0), (3, I s.2.2.1), (6, R ea .sh), (7, I (len ea)), (8, I s.2.2.2.1)]
   | some j => [(0, R ea .sh), (2, I 0), (3, I s.2.2.1), (5, I j), (6, R ea .sh), (7, I (len ea)), (8, I s.2.2.2.1)]) (fun s => At s.2.2.2.1 s.2.1.length ∧ l = s.2.1 ++ s.1 ∧ s.1.foldl hstep s.2.2.1 = T) (fun s => s.1.length) (l, [], 11, 0, none) rfl ⟨rfl, rfl, hT.symm⟩ ?_
 intro c1 Q1 hc1 hQ1
 rintro ⟨suf, pre, d, i, j⟩ ⟨hi, hl', hb⟩ ih
 simp only at hi hl' hb ih
 rcases j with _ | _
 all_goals
  cbv
  cases suf with
  | nil =>
   rw [F.lt_f hi la (by simp [hl'])]; cbv
   rw [hQ1]; cbv
   rw [hQ]; cbv
   rw [← hr, ← hb]; rfl
  | cons x suf =>
   rw [List.foldl_cons] at hb
   rw [F.lt_t hi la (by simp [hl'])]; cbv
   obtain ⟨ix, hix⟩ := nm (pre.length * 1)
   rw [show at' 1 ea i = some (ix, [.int .i64 x]) by rw [hix]; exact F.get hi hea hl' (fun _ => rfl) (by decide)]; cbv
   obtain ⟨v, hv⟩ := nm (modV x 2147483647)
   rw [show o 349 [I x, I 2147483647] = some ⟨[I v], [], none⟩ by rw [ho, hv]; exact ok349 ..]; cbv
   obtain ⟨d', hd'⟩ := nm (hstep d x)
   rw [show arith .rem .i64 (add .i64 (add .i64 (mul .i64 d 1000003) v) 13) 2147483647 = some (.int .i64 d') by rw [F.arith, hd', F.add, F.add, F.mul]; unfold hstep; rw [← hv]; exact rem_nz (by decide)]; cbv
   rw [← hd'] at hb
   refine ih (suf, pre ++ [x], d', add .i64 i 1, some x) ⟨at_len (F.inc hi (by simp [hl'] at hl; omega)) (by simp), by simp [hl'], hb⟩ (by simp)
def ixOf {α : Type} (p : α → Bool) : List α → Int → Int
 | [], _ => -1
 | x :: l, i => if p x = true then i else ixOf p l (i + 1)
theorem ixOf_ge {α : Type} (p : α → Bool) : ∀ (l : List α) (i : Int), 0 ≤ i → decide (0 ≤ ixOf p l i) = l.any p
 | [], i, h => by simp [ixOf]
 | x :: l, i, h => by
  unfold ixOf
  rw [List.any_cons]
  by_cases hx : p x = true
  ·rw [if_pos hx, hx]; simpa using h
  ·rw [if_neg hx, ixOf_ge p l (i + 1) (by omega)]; simp at hx; simp [hx]
theorem ixOf_none {α : Type} {p : α → Bool} : ∀ {l : List α} {i : Int}, l.any p = false → ixOf p l i = -1
 | [], i, _ => rfl
 | x :: l, i, h => by
  rw [List.any_cons, Bool.or_eq_false_iff] at h
  unfold ixOf
  rw [if_neg (by rw [h.1]; decide), ixOf_none h.2]
theorem ok341_0 (g : Nat) (hg : md g = []) (p : (List Int) → Bool) (l : List (List Int)) (hl : l.length ≤ 1099511627776) (hp : ∀ x ∈ l, fix Tb md g [R (row fI x) (.sp 0 0)] = some ⟨[B (p x)], [], none⟩) {f0 : Fl} (h0 : inFl f0 = true) :
  fix Tb md 341 [R (row fR l) f0, ⟨.val, [⟨.fn g [], .sh⟩]⟩] = some ⟨[I (ixOf p l 0)], [], none⟩ := by
 generalize hm : md = m at hg hp ⊢
 refine fix_fn (fn := ir341) tb_341 rfl rfl (by decide) rfl ?_; simp only [shutArgs, shutS, List.map_cons, List.map_nil, ir341, shut_in h0, List.head?_nil, reduceCtorEq, if_false, sExt, sHello, sAnswer, sEdit, sDeal, sBox, sDialed, sKnown]
 generalize hr : (⟨_, [], none⟩ : Ret) = r
 obtain ⟨ea, hea⟩ := nm (row fR l)
 rw [← hea]
 intro add sub mul arith eq ne lt le gt ge neg conv mn mx not beq len at' ln bd cut app allS isNil mks set o hP F ho
 have la := F.len_at hea
 cbv
 refine loop_ind hP (σ := List (List Int) × List (List Int) × Int × Option Int) (fun s => match s.2.2.2 with | none => [(0, R ea .sh), (1, ⟨.val, [⟨.fn g [], .sh⟩]⟩), (4, I 0), (7, I (len ea)), (8, I s.2.2.1)] | some j => [(0, R ea .sh), (1, ⟨.val, [⟨.fn g [], .sh⟩]⟩), (4, I 0), (5, I j), (7, I (len ea)), (8, I s.2.2.1)])
  (fun s => At s.2.2.1 s.2.1.length ∧ l = s.2.1 ++ s.1 ∧ ixOf p s.1 (s.2.1.length : Int) = ixOf p l 0) (fun s => s.1.length) (l, [], 0, none) rfl ⟨rfl, rfl, rfl⟩ ?_
 rintro ⟨suf, pre, i, j⟩ ⟨hi, hl', hx⟩ ih
 simp only at hi hl' hx ih
 have hi' : i = (pre.length : Int) := hi
 rw [← hi'] at hx
 cases j <;> cbv <;> (
  cases suf with
  | nil =>
   rw [F.lt_f hi la (by simp [hl'])]; cbv
   rw [← hr, ← hx]; rfl
  | cons x suf =>
   rw [F.lt_t hi la (by simp [hl'])]; cbv
   obtain ⟨e1, he1⟩ := nm (row fI x)
   obtain ⟨ix, hix⟩ := nm (pre.length * 1)
   rw [show at' 1 ea i = some (ix, [.row () e1]) by rw [hix, he1]; exact F.get hi hea hl' (fun _ => rfl) (by decide)]; cbv
   obtain ⟨v, hv⟩ := nm (p x)
   have c1 : o g [R e1 (.sp 0 0)] = some ⟨[B v], [], none⟩ := by rw [ho, hv, he1]; exact hp x (by rw [hl']; simp)
   rw [hg]; cbv
   rw [c1]; cbv
   have hx1 : ixOf p (x :: suf) i = if p x = true then i else ixOf p suf (i + 1) := rfl
   rw [hx1] at hx
   refine both (fun c => ?_) (fun c => ?_) <;> rw [c] <;> cbv
   ·rw [← hv, if_pos c] at hx
    rw [← hr, ← hx]
   ·rw [← hv, if_neg (by simp [c])] at hx
    refine ih (suf, pre ++ [x], add .i64 i 1, some i) ⟨at_len (F.inc hi (by simp [hl'] at hl; omega)) (by simp), by simp [hl'], ?_⟩ (by simp)
    rw [← hx, hi']
    simp)
theorem ok341_1 (g : Nat) (hg : md g = []) (k0 : V) (p : (List Int) → Bool) (l : List (List Int)) (hl : l.length ≤ 1099511627776) (hp : ∀ x ∈ l, fix Tb md g [R (row fI x) (.sp 0 0), ⟨.val, [⟨k0, .sh⟩]⟩] = some ⟨[B (p x)], [], none⟩) {f0 : Fl} (h0 : inFl f0 = true) :
  fix Tb md 341 [R (row fR l) f0, ⟨.val, [⟨.fn g [k0], .sh⟩]⟩] = some ⟨[I (ixOf p l 0)], [], none⟩ := by
 generalize hm : md = m at hg hp ⊢
 refine fix_fn (fn := ir341) tb_341 rfl rfl (by decide) rfl ?_; simp only [shutArgs, shutS, List.map_cons, List.map_nil, ir341, shut_in h0, List.head?_nil, reduceCtorEq, if_false, sExt, sHello, sAnswer, sEdit, sDeal, sBox, sDialed, sKnown]
 generalize hr : (⟨_, [], none⟩ : Ret) = r
 obtain ⟨ea, hea⟩ := nm (row fR l)
 rw [← hea]
 intro add sub mul arith eq ne lt le gt ge neg conv mn mx not beq len at' ln bd cut app allS isNil mks set o hP F ho
 have la := F.len_at hea
 cbv
 refine loop_ind hP (σ := List (List Int) × List (List Int) × Int × Option Int) (fun s => match s.2.2.2 with | none => [(0, R ea .sh), (1, ⟨.val, [⟨.fn g [k0], .sh⟩]⟩), (4, I 0), (7, I (len ea)), (8, I s.2.2.1)] | some j => [(0, R ea .sh), (1, ⟨.val, [⟨.fn g [k0], .sh⟩]⟩), (4, I 0), (5, I j), (7, I (len ea)), (8, I s.2.2.1)])
  (fun s => At s.2.2.1 s.2.1.length ∧ l = s.2.1 ++ s.1 ∧ ixOf p s.1 (s.2.1.length : Int) = ixOf p l 0) (fun s => s.1.length) (l, [], 0, none) rfl ⟨rfl, rfl, rfl⟩ ?_
 rintro ⟨suf, pre, i, j⟩ ⟨hi, hl', hx⟩ ih
 simp only at hi hl' hx ih
 have hi' : i = (pre.length : Int) := hi
 rw [← hi'] at hx
 cases j <;> cbv <;> (
  cases suf with
  | nil =>
   rw [F.lt_f hi la (by simp [hl'])]; cbv
   rw [← hr, ← hx]; rfl
  | cons x suf =>
   rw [F.lt_t hi la (by simp [hl'])]; cbv
   obtain ⟨e1, he1⟩ := nm (row fI x)
   obtain ⟨ix, hix⟩ := nm (pre.length * 1)
   rw [show at' 1 ea i = some (ix, [.row () e1]) by rw [hix, he1]; exact F.get hi hea hl' (fun _ => rfl) (by decide)]; cbv
   obtain ⟨v, hv⟩ := nm (p x)
   have c1 : o g [R e1 (.sp 0 0), ⟨.val, [⟨k0, .sh⟩]⟩] = some ⟨[B v], [], none⟩ := by rw [ho, hv, he1]; exact hp x (by rw [hl']; simp)
   rw [hg]; cbv
   rw [c1]; cbv
   have hx1 : ixOf p (x :: suf) i = if p x = true then i else ixOf p suf (i + 1) := rfl
   rw [hx1] at hx
   refine both (fun c => ?_) (fun c => ?_) <;> rw [c] <;> cbv
   ·rw [← hv, if_pos c] at hx
    rw [← hr, ← hx]
   ·rw [← hv, if_neg (by simp [c])] at hx
    refine ih (suf, pre ++ [x], add .i64 i 1, some i) ⟨at_len (F.inc hi (by simp [hl'] at hl; omega)) (by simp), by simp [hl'], ?_⟩ (by simp)
    rw [← hx, hi']
    simp)
theorem ok234_0 (g : Nat) (hg : md g = []) (p : (List Int) → Bool) (l : List (List Int)) (hl : l.length ≤ 1099511627776) (hp : ∀ x ∈ l, fix Tb md g [R (row fI x) (.sp 0 0)] = some ⟨[B (p x)], [], none⟩) {f0 : Fl} (h0 : inFl f0 = true) :
  fix Tb md 234 [R (row fR l) f0, ⟨.val, [⟨.fn g [], .sh⟩]⟩] = some ⟨[B (l.any p)], [], none⟩ := by
 refine fix_fn (fn := ir234) tb_234 rfl rfl (by decide) rfl ?_; simp only [shutArgs, shutS, List.map_cons, List.map_nil, ir234, shut_in h0, List.head?_nil, reduceCtorEq, if_false, sExt, sHello, sAnswer, sEdit, sDeal, sBox, sDialed, sKnown]
 generalize hr : (⟨_, [], none⟩ : Ret) = r
 obtain ⟨ea, hea⟩ := nm (row fR l)
 rw [← hea]
 obtain ⟨v, hv⟩ := nm (ixOf p l 0)
 have hv2 : decide (0 ≤ v) = l.any p := by rw [hv]; exact ixOf_ge p l 0 (by decide)
 rw [← hv2] at hr
 clear hv2
 intro add sub mul arith eq ne lt le gt ge neg conv mn mx not beq len at' ln bd cut app allS isNil mks set o hP F ho
 have c1 : o 341 [R ea (.sp 0 0), ⟨.val, [⟨.fn g [], .sh⟩]⟩] = some ⟨[I v], [], none⟩ := by rw [ho, hv, hea]; exact ok341_0 g hg p l hl hp rfl
 cbv
 rw [c1]; cbv
 rw [← hr, F.ge]
theorem ok234_1 (g : Nat) (hg : md g = []) (k0 : V) (p : (List Int) → Bool) (l : List (List Int)) (hl : l.length ≤ 1099511627776) (hp : ∀ x ∈ l, fix Tb md g [R (row fI x) (.sp 0 0), ⟨.val, [⟨k0, .sh⟩]⟩] = some ⟨[B (p x)], [], none⟩) {f0 : Fl} (h0 : inFl f0 = true) :
  fix Tb md 234 [R (row fR l) f0, ⟨.val, [⟨.fn g [k0], .sh⟩]⟩] = some ⟨[B (l.any p)], [], none⟩ := by
 refine fix_fn (fn := ir234) tb_234 rfl rfl (by decide) rfl ?_; simp only [shutArgs, shutS, List.map_cons, List.map_nil, ir234, shut_in h0, List.head?_nil, reduceCtorEq, if_false, sExt, sHello, sAnswer, sEdit, sDeal, sBox, sDialed, sKnown]
 generalize hr : (⟨_, [], none⟩ : Ret) = r
 obtain ⟨ea, hea⟩ := nm (row fR l)
 rw [← hea]
 obtain ⟨v, hv⟩ := nm (ixOf p l 0)
 have hv2 : decide (0 ≤ v) = l.any p := by rw [hv]; exact ixOf_ge p l 0 (by decide)
 rw [← hv2] at hr
 clear hv2
 intro add sub mul arith eq ne lt le gt ge neg conv mn mx not beq len at' ln bd cut app allS isNil mks set o hP F ho
 have c1 : o 341 [R ea (.sp 0 0), ⟨.val, [⟨.fn g [k0], .sh⟩]⟩] = some ⟨[I v], [], none⟩ := by rw [ho, hv, hea]; exact ok341_1 g hg k0 p l hl hp rfl
 cbv
 rw [c1]; cbv
 rw [← hr, F.ge]
theorem ok377_0 (g : Nat) (hg : md g = []) (p : Int → Bool) (l : List Int) (hl : l.length ≤ 1099511627776) (hp : ∀ x ∈ l, fix Tb md g [I x] = some ⟨[B (p x)], [], none⟩) {f0 : Fl} (h0 : inFl f0 = true) :
  fix Tb md 377 [R (row fI l) f0, ⟨.val, [⟨.fn g [], .sh⟩]⟩] = some ⟨[I (ixOf p l 0)], [], none⟩ := by
 generalize hm : md = m at hg hp ⊢
 refine fix_fn (fn := ir377) tb_377 rfl rfl (by decide) rfl ?_; simp only [shutArgs, shutS, List.map_cons, List.map_nil, ir377, shut_in h0, List.head?_nil, reduceCtorEq, if_false, sExt, sHello, sAnswer, sEdit, sDeal, sBox, sDialed, sKnown]
 generalize hr : (⟨_, [], none⟩ : Ret) = r
 obtain ⟨ea, hea⟩ := nm (row fI l)
 rw [← hea]
 intro add sub mul arith eq ne lt le gt ge neg conv mn mx not beq len at' ln bd cut app allS isNil mks set o hP F ho
 have la := F.len_at hea
 cbv
 refine loop_ind hP (σ := List Int × List Int × Int × Option Int) (fun s => match s.2.2.2 with | none => [(0, R ea .sh), (1, ⟨.val, [⟨.fn g [], .sh⟩]⟩), (4, I 0), (7, I (len ea)), (8, I s.2.2.1)] | some j => [(0, R ea .sh), (1, ⟨.val, [⟨.fn g [], .sh⟩]⟩), (4, I 0), (5, I j), (7, I (len ea)), (8, I s.2.2.1)])
  (fun s => At s.2.2.1 s.2.1.length ∧ l = s.2.1 ++ s.1 ∧ ixOf p s.1 (s.2.1.length : Int) = ixOf p l 0) (fun s => s.1.length) (l, [], 0, none) rfl ⟨rfl, rfl, rfl⟩ ?_
 rintro ⟨suf, pre, i, j⟩ ⟨hi, hl', hx⟩ ih
 simp only at hi hl' hx ih
 have hi' : i = (pre.length : Int) := hi
 rw [← hi'] at hx
 cases j <;> cbv <;> (
  cases suf with
  | nil =>
   rw [F.lt_f hi la (by simp [hl'])]; cbv
   rw [← hr, ← hx]; rfl
  | cons x suf =>
   rw [F.lt_t hi la (by simp [hl'])]; cbv
   obtain ⟨ix, hix⟩ := nm (pre.length * 1)
   rw [show at' 1 ea i = some (ix, [.int .i64 x]) by rw [hix]; exact F.get hi hea hl' (fun _ => rfl) (by decide)]; cbv
   obtain ⟨v, hv⟩ := nm (p x)
   have c1 : o g [I x] = some ⟨[B v], [], none⟩ := by rw [ho, hv]; exact hp x (by rw [hl']; simp)
   rw [hg]; cbv
   rw [c1]; cbv
   have hx1 : ixOf p (x :: suf) i = if p x = true then i else ixOf p suf (i + 1) := rfl
   rw [hx1] at hx
   refine both (fun c => ?_) (fun c => ?_) <;> rw [c] <;> cbv
   ·rw [← hv, if_pos c] at hx
    rw [← hr, ← hx]
   ·rw [← hv, if_neg (by simp [c])] at hx
    refine ih (suf, pre ++ [x], add .i64 i 1, some i) ⟨at_len (F.inc hi (by simp [hl'] at hl; omega)) (by simp), by simp [hl'], ?_⟩ (by simp)
    rw [← hx, hi']
    simp)
theorem ok377_1 (g : Nat) (hg : md g = []) (k0 : V) (p : Int → Bool) (l : List Int) (hl : l.length ≤ 1099511627776) (hp : ∀ x ∈ l, fix Tb md g [I x, ⟨.val, [⟨k0, .sh⟩]⟩] = some ⟨[B (p x)], [], none⟩) {f0 : Fl} (h0 : inFl f0 = true) :
  fix Tb md 377 [R (row fI l) f0, ⟨.val, [⟨.fn g [k0], .sh⟩]⟩] = some ⟨[I (ixOf p l 0)], [], none⟩ := by
 generalize hm : md = m at hg hp ⊢
 refine fix_fn (fn := ir377) tb_377 rfl rfl (by decide) rfl ?_; simp only [shutArgs, shutS, List.map_cons, List.map_nil, ir377, shut_in h0, List.head?_nil, reduceCtorEq, if_false, sExt, sHello, sAnswer, sEdit, sDeal, sBox, sDialed, sKnown]
 generalize hr : (⟨_, [], none⟩ : Ret) = r
 obtain ⟨ea, hea⟩ := nm (row fI l)
 rw [← hea]
 intro add sub mul arith eq ne lt le gt ge neg conv mn mx not beq len at' ln bd cut app allS isNil mks set o hP F ho
 have la := F.len_at hea
 cbv
 refine loop_ind hP (σ := List Int × List Int × Int × Option Int) (fun s => match s.2.2.2 with | none => [(0, R ea .sh), (1, ⟨.val, [⟨.fn g [k0], .sh⟩]⟩), (4, I 0), (7, I (len ea)), (8, I s.2.2.1)] | some j => [(0, R ea .sh), (1, ⟨.val, [⟨.fn g [k0], .sh⟩]⟩), (4, I 0), (5, I j), (7, I (len ea)), (8, I s.2.2.1)])
  (fun s => At s.2.2.1 s.2.1.length ∧ l = s.2.1 ++ s.1 ∧ ixOf p s.1 (s.2.1.length : Int) = ixOf p l 0) (fun s => s.1.length) (l, [], 0, none) rfl ⟨rfl, rfl, rfl⟩ ?_
 rintro ⟨suf, pre, i, j⟩ ⟨hi, hl', hx⟩ ih
 simp only at hi hl' hx ih
 have hi' : i = (pre.length : Int) := hi
 rw [← hi'] at hx
 cases j <;> cbv <;> (
  cases suf with
  | nil =>
   rw [F.lt_f hi la (by simp [hl'])]; cbv
   rw [← hr, ← hx]; rfl
  | cons x suf =>
   rw [F.lt_t hi la (by simp [hl'])]; cbv
   obtain ⟨ix, hix⟩ := nm (pre.length * 1)
   rw [show at' 1 ea i = some (ix, [.int .i64 x]) by rw [hix]; exact F.get hi hea hl' (fun _ => rfl) (by decide)]; cbv
   obtain ⟨v, hv⟩ := nm (p x)
   have c1 : o g [I x, ⟨.val, [⟨k0, .sh⟩]⟩] = some ⟨[B v], [], none⟩ := by rw [ho, hv]; exact hp x (by rw [hl']; simp)
   rw [hg]; cbv
   rw [c1]; cbv
   have hx1 : ixOf p (x :: suf) i = if p x = true then i else ixOf p suf (i + 1) := rfl
   rw [hx1] at hx
   refine both (fun c => ?_) (fun c => ?_) <;> rw [c] <;> cbv
   ·rw [← hv, if_pos c] at hx
    rw [← hr, ← hx]
   ·rw [← hv, if_neg (by simp [c])] at hx
    refine ih (suf, pre ++ [x], add .i64 i 1, some i) ⟨at_len (F.inc hi (by simp [hl'] at hl; omega)) (by simp), by simp [hl'], ?_⟩ (by simp)
    rw [← hx, hi']
    simp)
theorem ok377_2 (g : Nat) (hg : md g = []) (k0 k1 : V) (p : Int → Bool) (l : List Int) (hl : l.length ≤ 1099511627776) (hp : ∀ x ∈ l, fix Tb md g [I x, ⟨.val, [⟨k0, .sh⟩]⟩, ⟨.val, [⟨k1, .sh⟩]⟩] = some ⟨[B (p x)], [], none⟩) {f0 : Fl} (h0 : inFl f0 = true) :
  fix Tb md 377 [R (row fI l) f0, ⟨.val, [⟨.fn g [k0, k1], .sh⟩]⟩] = some ⟨[I (ixOf p l 0)], [], none⟩ := by
 generalize hm : md = m at hg hp ⊢
 refine fix_fn (fn := ir377) tb_377 rfl rfl (by decide) rfl ?_; simp only [shutArgs, shutS, List.map_cons, List.map_nil, ir377, shut_in h0, List.head?_nil, reduceCtorEq, if_false, sExt, sHello, sAnswer, sEdit, sDeal, sBox, sDialed, sKnown]
 generalize hr : (⟨_, [], none⟩ : Ret) = r
 obtain ⟨ea, hea⟩ := nm (row fI l)
 rw [← hea]
 intro add sub mul arith eq ne lt le gt ge neg conv mn mx not beq len at' ln bd cut app allS isNil mks set o hP F ho
 have la := F.len_at hea
 cbv
 refine loop_ind hP (σ := List Int × List Int × Int × Option Int) (fun s => match s.2.2.2 with | none => [(0, R ea .sh), (1, ⟨.val, [⟨.fn g [k0, k1], .sh⟩]⟩), (4, I 0), (7, I (len ea)), (8, I s.2.2.1)] | some j => [(0, R ea .sh), (1, ⟨.val, [⟨.fn g [k0, k1], .sh⟩]⟩), (4, I 0), (5, I j), (7, I (len ea)), (8, I s.2.2.1)])
  (fun s => At s.2.2.1 s.2.1.length ∧ l = s.2.1 ++ s.1 ∧ ixOf p s.1 (s.2.1.length : Int) = ixOf p l 0) (fun s => s.1.length) (l, [], 0, none) rfl ⟨rfl, rfl, rfl⟩ ?_
 rintro ⟨suf, pre, i, j⟩ ⟨hi, hl', hx⟩ ih
 simp only at hi hl' hx ih
 have hi' : i = (pre.length : Int) := hi
 rw [← hi'] at hx
 cases j <;> cbv <;> (
  cases suf with
  | nil =>
   rw [F.lt_f hi la (by simp [hl'])]; cbv
   rw [← hr, ← hx]; rfl
  | cons x suf =>
   rw [F.lt_t hi la (by simp [hl'])]; cbv
   obtain ⟨ix, hix⟩ := nm (pre.length * 1)
   rw [show at' 1 ea i = some (ix, [.int .i64 x]) by rw [hix]; exact F.get hi hea hl' (fun _ => rfl) (by decide)]; cbv
   obtain ⟨v, hv⟩ := nm (p x)
   have c1 : o g [I x, ⟨.val, [⟨k0, .sh⟩]⟩, ⟨.val, [⟨k1, .sh⟩]⟩] = some ⟨[B v], [], none⟩ := by rw [ho, hv]; exact hp x (by rw [hl']; simp)
   rw [hg]; cbv
   rw [c1]; cbv
   have hx1 : ixOf p (x :: suf) i = if p x = true then i else ixOf p suf (i + 1) := rfl
   rw [hx1] at hx
   refine both (fun c => ?_) (fun c => ?_) <;> rw [c] <;> cbv
   ·rw [← hv, if_pos c] at hx
    rw [← hr, ← hx]
   ·rw [← hv, if_neg (by simp [c])] at hx
    refine ih (suf, pre ++ [x], add .i64 i 1, some i) ⟨at_len (F.inc hi (by simp [hl'] at hl; omega)) (by simp), by simp [hl'], ?_⟩ (by simp)
    rw [← hx, hi']
    simp)
theorem ok336_0 (g : Nat) (hg : md g = []) (p : Int → Bool) (l : List Int) (hl : l.length ≤ 1099511627776) (hp : ∀ x ∈ l, fix Tb md g [I x] = some ⟨[B (p x)], [], none⟩) {f0 : Fl} (h0 : inFl f0 = true) :
  fix Tb md 336 [R (row fI l) f0, ⟨.val, [⟨.fn g [], .sh⟩]⟩] = some ⟨[B (l.any p)], [], none⟩ := by
 refine fix_fn (fn := ir336) tb_336 rfl rfl (by decide) rfl ?_; simp only [shutArgs, shutS, List.map_cons, List.map_nil, ir336, shut_in h0, List.head?_nil, reduceCtorEq, if_false, sExt, sHello, sAnswer, sEdit, sDeal, sBox, sDialed, sKnown]
 generalize hr : (⟨_, [], none⟩ : Ret) = r
 obtain ⟨ea, hea⟩ := nm (row fI l)
 rw [← hea]
 obtain ⟨v, hv⟩ := nm (ixOf p l 0)
 have hv2 : decide (0 ≤ v) = l.any p := by rw [hv]; exact ixOf_ge p l 0 (by decide)
 rw [← hv2] at hr
 clear hv2
 intro add sub mul arith eq ne lt le gt ge neg conv mn mx not beq len at' ln bd cut app allS isNil mks set o hP F ho
 have c1 : o 377 [R ea (.sp 0 0), ⟨.val, [⟨.fn g [], .sh⟩]⟩] = some ⟨[I v], [], none⟩ := by rw [ho, hv, hea]; exact ok377_0 g hg p l hl hp rfl
 cbv
 rw [c1]; cbv
 rw [← hr, F.ge]
theorem ok336_1 (g : Nat) (hg : md g = []) (k0 : V) (p : Int → Bool) (l : List Int) (hl : l.length ≤ 1099511627776) (hp : ∀ x ∈ l, fix Tb md g [I x, ⟨.val, [⟨k0, .sh⟩]⟩] = some ⟨[B (p x)], [], none⟩) {f0 : Fl} (h0 : inFl f0 = true) :
  fix Tb md 336 [R (row fI l) f0, ⟨.val, [⟨.fn g [k0], .sh⟩]⟩] = some ⟨[B (l.any p)], [], none⟩ := by
 refine fix_fn (fn := ir336) tb_336 rfl rfl (by decide) rfl ?_; simp only [shutArgs, shutS, List.map_cons, List.map_nil, ir336, shut_in h0, List.head?_nil, reduceCtorEq, if_false, sExt, sHello, sAnswer, sEdit, sDeal, sBox, sDialed, sKnown]
 generalize hr : (⟨_, [], none⟩ : Ret) = r
 obtain ⟨ea, hea⟩ := nm (row fI l)
 rw [← hea]
 obtain ⟨v, hv⟩ := nm (ixOf p l 0)
 have hv2 : decide (0 ≤ v) = l.any p := by rw [hv]; exact ixOf_ge p l 0 (by decide)
 rw [← hv2] at hr
 clear hv2
 intro add sub mul arith eq ne lt le gt ge neg conv mn mx not beq len at' ln bd cut app allS isNil mks set o hP F ho
 have c1 : o 377 [R ea (.sp 0 0), ⟨.val, [⟨.fn g [k0], .sh⟩]⟩] = some ⟨[I v], [], none⟩ := by rw [ho, hv, hea]; exact ok377_1 g hg k0 p l hl hp rfl
 cbv
 rw [c1]; cbv
 rw [← hr, F.ge]
theorem ok336_2 (g : Nat) (hg : md g = []) (k0 k1 : V) (p : Int → Bool) (l : List Int) (hl : l.length ≤ 1099511627776) (hp : ∀ x ∈ l, fix Tb md g [I x, ⟨.val, [⟨k0, .sh⟩]⟩, ⟨.val, [⟨k1, .sh⟩]⟩] = some ⟨[B (p x)], [], none⟩) {f0 : Fl} (h0 : inFl f0 = true) :
  fix Tb md 336 [R (row fI l) f0, ⟨.val, [⟨.fn g [k0, k1], .sh⟩]⟩] = some ⟨[B (l.any p)], [], none⟩ := by
 refine fix_fn (fn := ir336) tb_336 rfl rfl (by decide) rfl ?_; simp only [shutArgs, shutS, List.map_cons, List.map_nil, ir336, shut_in h0, List.head?_nil, reduceCtorEq, if_false, sExt, sHello, sAnswer, sEdit, sDeal, sBox, sDialed, sKnown]
 generalize hr : (⟨_, [], none⟩ : Ret) = r
 obtain ⟨ea, hea⟩ := nm (row fI l)
 rw [← hea]
 obtain ⟨v, hv⟩ := nm (ixOf p l 0)
 have hv2 : decide (0 ≤ v) = l.any p := by rw [hv]; exact ixOf_ge p l 0 (by decide)
 rw [← hv2] at hr
 clear hv2
 intro add sub mul arith eq ne lt le gt ge neg conv mn mx not beq len at' ln bd cut app allS isNil mks set o hP F ho
 have c1 : o 377 [R ea (.sp 0 0), ⟨.val, [⟨.fn g [k0, k1], .sh⟩]⟩] = some ⟨[I v], [], none⟩ := by rw [ho, hv, hea]; exact ok377_2 g hg k0 k1 p l hl hp rfl
 cbv
 rw [c1]; cbv
 rw [← hr, F.ge]
theorem ok340 (x lo hi : Int) : fix Tb md 340 [I x, ⟨.val, [⟨.ptr () [.int .i64 lo], .sh⟩]⟩, ⟨.val, [⟨.ptr () [.int .i64 hi], .sh⟩]⟩] = some ⟨[B (!inR x lo hi)], [], none⟩ := by
 refine fix_fn (fn := ir340) tb_340 rfl rfl (by decide) rfl ?_; simp only [shutArgs, shutS, List.map_cons, List.map_nil, ir340, List.head?_nil, reduceCtorEq, if_false, sExt, sHello, sAnswer, sEdit, sDeal, sBox, sDialed, sKnown]
 generalize hr : (⟨_, [], none⟩ : Ret) = r
 obtain ⟨v, hv⟩ := nm (inR x lo hi)
 rw [← hv] at hr
 intro add sub mul arith eq ne lt le gt ge neg conv mn mx not beq len at' ln bd cut app allS isNil mks set o hP F ho
 have c1 : o 232 [I x, I lo, I hi] = some ⟨[B v], [], none⟩ := by rw [ho, hv]; exact ok232 ..
 cbv
 rw [c1]; cbv
 rw [← hr, F.not]
def nums (l : List Int) (lo hi : Int) : Bool := l.all fun x => inR x lo hi
theorem ok233 (l : List Int) (lo hi : Int) (hl : l.length ≤ 1099511627776) {f0 : Fl} (h0 : inFl f0 = true) : fix Tb md 233 [R (row fI l) f0, I lo, I hi] = some ⟨[B (nums l lo hi)], [], none⟩ := by
 rw [show nums l lo hi = !(l.any fun x => !inR x lo hi) by unfold nums; simp [List.all_eq_not_any_not]]
 refine fix_fn (fn := ir233) tb_233 rfl rfl (by decide) rfl ?_; simp only [shutArgs, shutS, List.map_cons, List.map_nil, ir233, shut_in h0, List.head?_nil, reduceCtorEq, if_false, sExt, sHello, sAnswer, sEdit, sDeal, sBox, sDialed, sKnown]
 generalize hr : (⟨_, [], none⟩ : Ret) = r
 obtain ⟨v, hv⟩ := nm (l.any fun x => !inR x lo hi)
 obtain ⟨ea, hea⟩ := nm (row fI l)
 rw [← hv] at hr
 rw [← hea]
 intro add sub mul arith eq ne lt le gt ge neg conv mn mx not beq len at' ln bd cut app allS isNil mks set o hP F ho
 have c1 : o 336 [R ea (.sp 0 0), ⟨.val, [⟨.fn 340 [.ptr () [.int .i64 lo], .ptr () [.int .i64 hi]], .sh⟩]⟩] = some ⟨[B v], [], none⟩ := by rw [ho, hv, hea]; exact ok336_2 340 rfl _ _ _ l hl (fun x _ => ok340 x lo hi) rfl
 cbv
 rw [c1]; cbv
 rw [← hr, F.not]
theorem ok235 (l : List Int) (hl : l.length ≤ 1099511627776) {f0 : Fl} (h0 : inFl f0 = true) : fix Tb md 235 [R (row fI l) f0] = some ⟨[B (!bytes l)], [], none⟩ := by
 refine fix_fn (fn := ir235) tb_235 rfl rfl (by decide) rfl ?_; simp only [shutArgs, shutS, List.map_cons, List.map_nil, ir235, shut_in h0, List.head?_nil, reduceCtorEq, if_false, sExt, sHello, sAnswer, sEdit, sDeal, sBox, sDialed, sKnown]
 generalize hr : (⟨_, [], none⟩ : Ret) = r
 obtain ⟨v, hv⟩ := nm (bytes l)
 obtain ⟨ea, hea⟩ := nm (row fI l)
 rw [← hv] at hr
 rw [← hea]
 intro add sub mul arith eq ne lt le gt ge neg conv mn mx not beq len at' ln bd cut app allS isNil mks set o hP F ho
 have c1 : o 233 [R ea (.sp 0 0), I 0, I 255] = some ⟨[B v], [], none⟩ := by rw [ho, hv, hea]; exact ok233 _ _ _ hl rfl
 cbv
 rw [c1]; cbv
 rw [← hr, F.not]
theorem ok73 (l : List (List Int)) (w : l.length ≤ 1048576 ∧ ∀ y ∈ l, y.length ≤ 1048576) {f0 : Fl} (h0 : inFl f0 = true) : fix Tb md 73 [R (row fR l) f0] = some ⟨[B (isTr l)], [], none⟩ := by
 have w1 := w.1
 refine fix_fn (fn := ir73) tb_73 rfl rfl (by decide) rfl ?_; simp only [shutArgs, shutS, List.map_cons, List.map_nil, ir73, shut_in h0, List.head?_nil, reduceCtorEq, if_false, sExt, sHello, sAnswer, sEdit, sDeal, sBox, sDialed, sKnown]
 generalize hr : (⟨_, [], none⟩ : Ret) = r
 obtain ⟨v, hv⟩ := nm (l.any fun y => !bytes y)
 have e : isTr l = (decide (l.length ≤ 12) && !v) := by rw [hv]; unfold isTr; rw [List.all_eq_not_any_not, Bool.and_comm]
 obtain ⟨ea, hea⟩ := nm (row fR l)
 rw [e] at hr
 rw [← hea]
 intro add sub mul arith eq ne lt le gt ge neg conv mn mx not beq len at' ln bd cut app allS isNil mks set o hP F ho
 have la := F.len_at hea
 have c1 : o 234 [R ea (.sp 0 0), ⟨.val, [⟨.fn 235 [], .sh⟩]⟩] = some ⟨[B v], [], none⟩ := by rw [ho, hv, hea]; exact ok234_0 235 rfl _ l (by omega) (fun x hx => ok235 x (by have := w.2 x hx; omega) rfl) rfl
 cbv
 repeat' (first | (rw [c1]; cbv) | (refine both (fun c => ?_) (fun c => ?_) <;> (try rw [c]) <;> (try cbv)))
 all_goals (clear hP c1 ho; unfold At at la; try simp only [F.eq, F.ne, F.le, F.lt, F.ge, F.gt, F.not, F.beq, la] at *; clear F; subst hr)
 all_goals (simp_all [] <;> (intros; omega))
theorem ok121 (l : List (List Int)) (w : l.length ≤ 1048576 ∧ ∀ y ∈ l, y.length ≤ 1048576) {f0 : Fl} (h0 : inFl f0 = true) : fix Tb md 121 [R (row fR l) f0] = some ⟨[I (thash l)], [], none⟩ := by
 have w1 := w.1
 obtain ⟨T, hT⟩ := nm (thash l)
 rw [← hT]
 generalize hr : (⟨_, [], none⟩ : Ret) = r
 obtain ⟨ea, hea⟩ := nm (row fR l)
 rw [← hea]
 obtain ⟨u, hu⟩ := nm (isTr l)
 refine fix_fn2 (fn := ir121) tb_121 rfl rfl (by decide) rfl ?_; intro Q hQ; simp only [shutArgs, shutS, List.map_cons, List.map_nil, ir121, shut_in h0, List.head?_nil, reduceCtorEq, if_false, sExt, sHello, sAnswer, sEdit, sDeal, sBox, sDialed, sKnown]
 intro add sub mul arith eq ne lt le gt ge neg conv mn mx not beq len at' ln bd cut app allS isNil mks set o hP F ho
 have la := F.len_at hea
 have c1 : o 73 [R ea (.sp 0 0)] = some ⟨[B u], [], none⟩ := by rw [ho, hu, hea]; exact ok73 _ w rfl
 cbv
 rw [c1]; cbv
 refine both (fun d1 => ?_) (fun d1 => ?_) <;> rw [d1] <;> cbv
 ·rw [hQ]; cbv
  rw [← hr, hT]; unfold thash; rw [← hu, F.not_t d1]; rfl
 have hT' : T = l.foldl hcons 1 := by rw [hT]; unfold thash; rw [← hu, F.not_f d1]; rfl
 refine loop_ind2 hP (σ := List (List Int) × List (List Int) × Int × Int × Option (List (List V))) (fun s => match s.2.2.2.2 with
   | none => [(0, R ea .sh), (2, I 0), (3, I s.2.2.1), (9, R ea .sh), (10, I (len ea)), (11, I s.2.2.2.1)]
   | some j => [(0, R ea .sh), (2, I 0), (3, I s.2.2.1), (5, R j .sh), (9, R ea .sh), (10, I (len ea)), (11, I s.2.2.2.1)]) (fun s => At s.2.2.2.1 s.2.1.length ∧ l = s.2.1 ++ s.1 ∧ s.1.foldl hcons s.2.2.1 = T) (fun s => s.1.length) (l, [], 1, 0, none) rfl ⟨rfl, rfl, hT'.symm⟩ ?_
 intro c1 Q1 hc1 hQ1
 rintro ⟨suf, pre, d, i, j⟩ ⟨hi, hl', hb⟩ ih
 simp only at hi hl' hb ih
 rcases j with _ | _
 all_goals
  cbv
  cases suf with
  | nil =>
   rw [F.lt_f hi la (by simp [hl'])]; cbv
   rw [hQ1]; cbv
   rw [hQ]; cbv
   rw [← hr, ← hb]; rfl
  | cons x suf =>
   have hx := w.2 x (by rw [hl']; simp)
   rw [List.foldl_cons] at hb
   obtain ⟨nx, hnx⟩ := nm ((x.length : Int))
   have hc : hcons d x = hashV (d :: nx :: x) := by rw [hnx]; rfl
   rw [F.lt_t hi la (by simp [hl'])]; cbv
   obtain ⟨ix, hix⟩ := nm (pre.length * 1)
   obtain ⟨e1, he1⟩ := nm (row fI x)
   have l1 : len e1 = nx := by rw [hnx]; exact F.len_at he1
   have p0 : at' 1 ea i = some (ix, [.row () e1]) := by rw [hix, he1]; exact F.get hi hea hl' (fun _ => rfl) (by decide)
   rw [p0]; cbv
   try (rw [show allS e1 = true from F.scal he1 (fun _ => rfl)])
   try (rw [l1])
   cbv
   obtain ⟨e2, he2⟩ := nm (row fI (d :: nx :: x))
   rw [show app 1 [[.int .i64 d], [.int .i64 nx]] e1 = some e2 by rw [F.app' (f := fI) (e1 := [[.int .i64 d], [.int .i64 nx]]) (l1 := [d, nx]) rfl he1 (fun _ => rfl) (by simp; omega), he2]; rfl]; cbv
   obtain ⟨d', hd'⟩ := nm (hcons d x)
   rw [show o 269 [R e2 (.sp 0 0)] = some ⟨[I d'], [], none⟩ by rw [ho, hd', hc, he2]; exact ok269 _ (by simp; omega) rfl]; cbv
   rw [← hd'] at hb
   refine ih (suf, pre ++ [x], d', add .i64 i 1, some e1) ⟨at_len (F.inc hi (by simp [hl'] at w1; omega)) (by simp), by simp [hl'], hb⟩ (by simp)
theorem ok355 (n : Int) (h0 : 0 < n) (h1 : n ≤ 1099511627776) : fix Tb md 355 [R [] .nl, I n] = some ⟨[R [] (.ow true)], [], none⟩ := by
 refine fix_special tb_355 (by decide) ?_
 show special 2 [⟨.val, [⟨.row () [], .nl⟩]⟩, ⟨.val, [⟨.int .i64 n, .sc⟩]⟩] = _
 have h2 : 0 < n ∧ n ≤ (lim : Int) := ⟨h0, by simpa [lim] using h1⟩
 simp only [special, h2, and_self, if_true]
end Go.Vm
