/- What the functions answer. -/
import Derived.Test.YtmojgceacpclpaaGLTab
import Derived.Test.YtmojgceacpclpaaGLFA
set_option maxHeartbeats 4000000
set_option maxRecDepth 10000
set_option linter.unusedVariables false
set_option linter.unusedSimpArgs false
namespace Go.Vm
def dualM (x : Move) : Move := ⟨x.src, !x.send, x.msg, x.dst⟩
theorem ok217 (st : Int) (es : List Bool) (l : List Move) (he : es.length ≤ 1073741824) (hl : l.length ≤ 1073741824) {f0 f1 : Fl} (h0 : inFl f0 = true) (h1 : inFl f1 = true) : fix Tb md 217 [sMach st (row fB es) (row fMove l) f0 f1] = some ⟨[sMach st (row fB es) (row fMove (l.map dualM)) (.ow false) (.ow false)], [], none⟩ := by
 obtain ⟨et, het⟩ := nm (row fMove (l.map dualM))
 rw [← het]
 generalize hr : (⟨_, [], none⟩ : Ret) = r
 obtain ⟨ea, hea⟩ := nm (row fMove l)
 obtain ⟨eb, heb⟩ := nm (row fB es)
 rw [← heb] at hr
 rw [← hea, ← heb]
 refine fix_fn2 (fn := ir217) tb_217 rfl rfl (by decide) rfl ?_; intro Q hQ; simp only [shutArgs, shutS, List.map_cons, List.map_nil, ir217, shut_in h0, shut_in h1, List.head?_nil, reduceCtorEq, if_false, sExt, sHello, sAnswer, sEdit, sDeal, sBox, sDialed, sKnown, sMach, sMove]
 intro add sub mul arith eq ne lt le gt ge neg conv mn mx not beq len at' ln bd cut app allS isNil mks set o hP F ho
 cbv
 rw [show allS eb = true from F.scal heb (fun _ => rfl)]; cbv
 rw [F.app_nil heb (fun _ => rfl) (by omega)]; cbv
 rw [show allS ea = true from F.scal hea (fun _ => rfl)]; cbv
 rw [F.app_nil hea (fun _ => rfl) (by omega)]; cbv
 have la := F.len_at hea
 refine loop_ind2 hP (σ := List Move × List Move × List (List V) × Int × Option Int) (fun s => match s.2.2.2.2 with
  | none => [(0, sMach st eb ea .sh .sh), (1, ⟨.ptr 37 0, []⟩), (2, ⟨.ptr 38 0, []⟩), (3, ⟨.ptr 39 0, []⟩), (18, I (len ea)), (19, I s.2.2.2.1), (37, ⟨.box (), [⟨.int .i64 st, .sc⟩, ⟨.row () eb, .sh⟩, ⟨.row () ea, .sh⟩]⟩), (38, ⟨.box (), [⟨.int .i64 0, .sc⟩, ⟨.row () [], .nl⟩, ⟨.row () [], .nl⟩]⟩), (39, ⟨.box (), [⟨.int .i64 st, .sc⟩, ⟨.row () eb, .ow false⟩, ⟨.row () s.2.2.1, .ow false⟩]⟩)]
  | some j => [(0, sMach st eb ea .sh .sh), (1, ⟨.ptr 37 0, []⟩), (2, ⟨.ptr 38 0, []⟩), (3, ⟨.ptr 39 0, []⟩), (4, I j), (18, I (len ea)), (19, I s.2.2.2.1), (37, ⟨.box (), [⟨.int .i64 st, .sc⟩, ⟨.row () eb, .sh⟩, ⟨.row () ea, .sh⟩]⟩), (38, ⟨.box (), [⟨.int .i64 0, .sc⟩, ⟨.row () [], .nl⟩, ⟨.row () [], .nl⟩]⟩), (39, ⟨.box (), [⟨.int .i64 st, .sc⟩, ⟨.row () eb, .ow false⟩, ⟨.row () s.2.2.1, .ow false⟩]⟩)])
  (fun s => At s.2.2.2.1 s.2.1.length ∧ l = s.2.1 ++ s.1 ∧ s.2.2.1 = row fMove (s.2.1.map dualM ++ s.1)) (fun s => s.1.length) (l, [], ea, 0, none) rfl ⟨rfl, rfl, hea⟩ ?_
 intro c9 Q1 hc9 hQ1
 rintro ⟨suf, pre, eo, i, j⟩ ⟨hi, hl', heo⟩ ih
 simp only at hi hl' heo ih
 cases suf with
 | nil =>
  have gl : lt i (len ea) = false := F.lt_f hi la (by simp [hl'])
  have hfin : eo = et := by rw [heo, het, hl', List.append_nil, List.append_nil]
  rcases j with _ | j
  all_goals
   cbv
   rw [gl]; cbv
   rw [hQ1]; cbv
   rw [hQ]; cbv
   rw [hfin]; exact congrArg some hr
 | cons x suf =>
  obtain ⟨x1, x2, x3, x4⟩ := x
  have gl : lt i (len ea) = true := F.lt_t hi la (by simp [hl'])
  have hpre : pre.length ≤ 1073741824 := by rw [hl'] at hl; simp at hl; omega
  have hi' : At (add .i64 i 1) (pre ++ [(⟨x1, x2, x3, x4⟩ : Move)]).length := at_len (F.inc hi (by omega)) (by simp)
  have hl2 : l = (pre ++ [⟨x1, x2, x3, x4⟩]) ++ suf := by rw [hl']; simp
  obtain ⟨ix, hix⟩ := nm ((pre.map dualM).length * 4)
  have r1 : at' 4 eo i = some (ix, [.int .i64 x1, .bool x2, .int .i64 x3, .int .i64 x4]) := by rw [hix]; exact F.get (at_len hi (by simp)) heo rfl (fun _ => rfl) (by decide)
  obtain ⟨eo', heo'⟩ := nm (row fMove (pre.map dualM ++ dualM ⟨x1, x2, x3, x4⟩ :: suf))
  obtain ⟨y2, hy2⟩ := nm (!x2)
  have gn : not x2 = y2 := by rw [F.not x2, hy2]
  have s1 : set eo (Nat.succ ix) [.bool y2] = some eo' := by
   rw [hy2, show Nat.succ ix = ix + 1 from rfl]
   rw [F.set, heo, hix, heo', show row fMove (pre.map dualM ++ (⟨x1, x2, x3, x4⟩ : Move) :: suf) = row fMove (pre.map dualM) ++ [.int .i64 x1, .bool x2, .int .i64 x3, .int .i64 x4] :: row fMove suf by simp [row, fMove]]
   have := set_raw (k := 4) [.bool (!x2)] 1 (row fMove (pre.map dualM)) [.int .i64 x1, .bool x2, .int .i64 x3, .int .i64 x4] (row fMove suf) (by intro a ha; obtain ⟨b, _, rfl⟩ := List.mem_map.1 ha; rfl) rfl (by simp)
   rw [row_len] at this
   rw [this]; simp [row, fMove, dualM]
  have ih' := fun j => ih (suf, pre ++ [⟨x1, x2, x3, x4⟩], eo', add .i64 i 1, j) ⟨hi', hl2, by rw [heo']; simp⟩ (by simp)
  clear ih
  rcases j with _ | j
  all_goals
   cbv
   rw [gl]; cbv
   rw [r1]; cbv
   rw [gn]; cbv
   rw [r1]; cbv
   rw [s1]; cbv
   exact ih' (some i)
theorem intsOf_row : ∀ l : List Int, intsOf (row fI l) = some l
 | [] => rfl
 | x :: l => by
  show intsOf ([.int .i64 x] :: row fI l) = _
  unfold intsOf
  rw [intsOf_row l]; rfl
theorem ok2346 (l : List Int) (hl : l.length ≤ 1099511627776) : fix Tb md 2346 [R (row fI l) (.mp 0)] = some ⟨[], [.row () (row fI (sortI l))], none⟩ := by
 refine fix_special tb_2346 (by decide) ?_
 show special 3 [⟨.val, [⟨.row () (row fI l), .mp 0⟩]⟩] = _
 have h2 : l.length ≤ lim := by simpa [lim] using hl
 simp only [special, intsOf_row, h2, if_true]
 rfl
def noTw : List Int → Prop
 | [] => True
 | x :: l => (∀ y t, l = y :: t → x ≠ y) ∧ noTw l
theorem noTw_app {p : List Int} {x y : Int} {t : List Int} (h : noTw (p ++ x :: y :: t)) : x ≠ y := by
 induction p with
 | nil => exact h.1 y t rfl
 | cons a p ih => exact ih h.2
theorem ok376 (l : List Int) (hl : l.length ≤ 1073741824) (ht : noTw l) {f0 : Fl} (h0 : inFl f0 = true) : ∃ f, fix Tb md 376 [R (row fI l) f0] = some ⟨[R (row fI l) f], [], none⟩ ∧ f = .no := by
 refine ⟨.no, ?_, rfl⟩
 generalize hr : (⟨_, [], none⟩ : Ret) = r
 obtain ⟨ea, hea⟩ := nm (row fI l)
 rw [← hea] at hr
 rw [← hea]
 have hs : 2 ≤ l.length → ∃ a t, l = a :: t := fun h => by cases l with
  | nil => simp at h
  | cons a t => exact ⟨a, t, rfl⟩
 refine fix_fn2 (fn := ir376) tb_376 rfl rfl (by decide) rfl ?_; intro Q hQ; simp only [shutArgs, shutS, List.map_cons, List.map_nil, ir376, shut_in h0, List.head?_nil, reduceCtorEq, if_false, sExt, sHello, sAnswer, sEdit, sDeal, sBox, sDialed, sKnown]
 intro add sub mul arith eq ne lt le gt ge neg conv mn mx not beq len at' ln bd cut app allS isNil mks set o hP F ho
 have la := F.len_at hea
 have hlo : lt (len ea) 2 = false → 2 ≤ l.length := fun c => by
  rw [F.lt, show len ea = (l.length : Int) from la, decide_eq_false_iff_not] at c; omega
 cbv
 refine both (fun c => ?_) (fun c => ?_) <;> rw [c] <;> cbv
 ·rw [hQ]; cbv
  exact congrArg some hr
 ·obtain ⟨a, t, hat⟩ := hs (hlo c)
  clear hs c hlo
  refine loop_ind2 hP (σ := List Int × List Int × Int × Int) (fun s => [(0, R ea .sh), (2, R [] .nl), (3, I s.2.2.2)]) (fun s => At s.2.2.2 (s.2.1.length + 1) ∧ l = s.2.1 ++ s.2.2.1 :: s.1) (fun s => s.1.length) (t, [], a, 1) rfl ⟨rfl, hat⟩ ?_
  clear hat
  intro c1 Q1 hc1 hQ1
  rintro ⟨suf, pre, a, i⟩ ⟨hi, hl'⟩ ih
  simp only at hi hl' ih
  have hi2 : At i (pre ++ [a]).length := at_len hi (by simp)
  have hl2 : l = (pre ++ [a]) ++ suf := by rw [hl']; simp
  cbv
  cases suf with
  | nil =>
   rw [F.lt_f hi2 la (by simp [hl'])]; cbv
   rw [hQ1]; cbv
   rw [hQ]; cbv
   exact congrArg some hr
  | cons x suf =>
   obtain ⟨ix, hix⟩ := nm ((pre ++ [a]).length * 1)
   obtain ⟨iy, hiy⟩ := nm (pre.length * 1)
   have hpl : pre.length ≤ 1073741824 := by rw [hl'] at hl; simp at hl; omega
   have hj : At (sub .i64 i 1) pre.length := by
    unfold At at hi ⊢
    rw [F.sub, hi, wrap64 (by omega) (by omega)]; omega
   have n1 : eq x a = false := by
    rw [F.eq, decide_eq_false_iff_not]
    exact fun h => noTw_app (hl' ▸ ht) h.symm
   have p1 : at' 1 ea i = some (ix, [.int .i64 x]) := by rw [hix]; exact F.get hi2 hea hl2 (fun _ => rfl) (by decide)
   have p2 : at' 1 ea (sub .i64 i 1) = some (iy, [.int .i64 a]) := by rw [hiy]; exact F.get hj hea hl' (fun _ => rfl) (by decide)
   rw [F.lt_t hi2 la (by simp [hl'])]; cbv
   rw [p1]; cbv
   rw [p2]; cbv
   rw [n1]; cbv
   refine ih (suf, pre ++ [a], x, add .i64 i 1) ⟨at_len (F.inc hi2 (by simp; omega)) (by simp), by simp [hl']⟩ (by simp)
def mvs (l : List Move) (s : Int) (d : Bool) : List Int := sel (isFr s d) Move.msg l
theorem ok334 (st : Int) (es : List Bool) (l : List Move) (s : Int) (d : Bool) (hl : l.length ≤ 1073741824) (ht : noTw (sortI (mvs l s d))) {f0 f1 : Fl} (h0 : inFl f0 = true) (h1 : inFl f1 = true) : fix Tb md 334 [sMach st (row fB es) (row fMove l) f0 f1, I s, B d] = some ⟨[R (row fI (sortI (mvs l s d))) .no], [], none⟩ := by
 obtain ⟨es1, hes1⟩ := nm (row fI (sortI (mvs l s d)))
 rw [← hes1]
 generalize hr : (⟨_, [], none⟩ : Ret) = r
 obtain ⟨ea, hea⟩ := nm (row fMove l)
 obtain ⟨eb, heb⟩ := nm (row fB es)
 rw [← hea, ← heb]
 have hsl : (sortI (mvs l s d)).length ≤ l.length := by unfold sortI mvs; rw [List.length_mergeSort]; exact sel_len
 refine fix_fn2 (fn := ir334) tb_334 rfl rfl (by decide) rfl ?_; intro Q hQ; simp only [shutArgs, shutS, List.map_cons, List.map_nil, ir334, shut_in h0, shut_in h1, List.head?_nil, reduceCtorEq, if_false, sExt, sHello, sAnswer, sEdit, sDeal, sBox, sDialed, sKnown, sMach, sMove]
 intro add sub mul arith eq ne lt le gt ge neg conv mn mx not beq len at' ln bd cut app allS isNil mks set o hP F ho
 have la := F.len_at hea
 cbv
 refine loop_ind2 hP (σ := List Move × List Move × List (List V) × Int × Option Move) (fun s' => match s'.2.2.2.2 with
    | none => [(0, sMach st eb ea .sh .sh), (1, I s), (2, B d), (3, ⟨.ptr 41 0, []⟩), (6, R [] .nl), (7, R s'.2.2.1 (.ow false)), (12, R ea .sh), (13, I (len ea)), (14, I s'.2.2.2.1), (41, ⟨.box (), [⟨.int .i64 st, .sc⟩, ⟨.row () eb, .sh⟩, ⟨.row () ea, .sh⟩]⟩)]
    | some j => [(0, sMach st eb ea .sh .sh), (1, I s), (2, B d), (3, ⟨.ptr 41 0, []⟩), (6, R [] .nl), (7, R s'.2.2.1 (.ow false)), (9, ⟨.ptr 47 0, []⟩), (12, R ea .sh), (13, I (len ea)), (14, I s'.2.2.2.1), (41, ⟨.box (), [⟨.int .i64 st, .sc⟩, ⟨.row () eb, .sh⟩, ⟨.row () ea, .sh⟩]⟩), (47, ⟨.box (), [⟨.int .i64 j.src, .sc⟩, ⟨.bool j.send, .sc⟩, ⟨.int .i64 j.msg, .sc⟩, ⟨.int .i64 j.dst, .sc⟩]⟩)]) (fun s' => At s'.2.2.2.1 s'.2.1.length ∧ l = s'.2.1 ++ s'.1 ∧ s'.2.2.1 = row fI (mvs s'.2.1 s d)) (fun s' => s'.1.length) (l, [], [], 0, none) rfl ⟨rfl, rfl, rfl⟩ ?_
 intro c1 Q1 hc1 hQ1
 rintro ⟨suf, pre, eo, i, j⟩ ⟨hi, hl', hb⟩ ih
 simp only at hi hl' hb ih
 rcases j with _ | ⟨j1, j2, j3, j4⟩
 all_goals
  cbv
  cases suf with
  | nil =>
   have hpl : pre = l := by rw [hl', List.append_nil]
   have c2 : o 2346 [R eo (.mp 0)] = some ⟨[], [.row () es1], none⟩ := by
    rw [ho, hb, hes1, hpl]; exact ok2346 _ (Nat.le_trans sel_len (by omega))
   have c3 : o 376 [R es1 (.sp 0 0)] = some ⟨[R es1 .no], [], none⟩ := by
    rw [ho, hes1]; obtain ⟨f, h1, h2⟩ := ok376 (sortI (mvs l s d)) (by omega) ht (f0 := .sp 0 0) rfl; rw [h1, h2]
   rw [F.lt_f hi la (by simp [hl'])]; cbv
   rw [hQ1]; cbv
   rw [c2]; cbv
   rw [c3]; cbv
   rw [hQ]; cbv
   exact congrArg some hr
  | cons x suf =>
   obtain ⟨x1, x2, x3, x4⟩ := x
   obtain ⟨ix, hix⟩ := nm (pre.length * 4)
   have hpre : pre.length ≤ 1073741824 := by rw [hl'] at hl; simp at hl; omega
   have hs : (mvs pre s d).length ≤ pre.length := sel_len
   have hi' : At (add .i64 i 1) (pre ++ [(⟨x1, x2, x3, x4⟩ : Move)]).length := at_len (F.inc hi (by omega)) (by simp)
   have hl2 : l = (pre ++ [⟨x1, x2, x3, x4⟩]) ++ suf := by rw [hl']; simp
   have p0 : at' 4 ea i = some (ix, [.int .i64 x1, .bool x2, .int .i64 x3, .int .i64 x4]) := by rw [hix]; exact F.get hi hea hl' (fun _ => rfl) (by decide)
   have g1 : eq x1 s = decide (x1 = s) := F.eq ..
   have g2 : beq x2 d = decide (x2 = d) := F.beq ..
   have q1 : allS [[.int .i64 x3]] = true := by rw [F.allS]; rfl
   obtain ⟨eo', heo'⟩ := nm (row fI (mvs pre s d ++ [x3]))
   have q2 : app 1 eo [[.int .i64 x3]] = some eo' := by rw [heo']; exact F.push hb (fun _ => rfl) rfl (by omega)
   rw [F.lt_t hi la (by simp [hl'])]; cbv
   rw [p0]; cbv
   rw [g1]
   refine both (fun c => ?_) (fun c => ?_) <;> rw [c] <;> cbv
   ·rw [g2]
    refine both (fun c' => ?_) (fun c' => ?_) <;> rw [c'] <;> cbv
    ·rw [q1]; cbv
     rw [q2]; cbv
     refine ih (suf, pre ++ [⟨x1, x2, x3, x4⟩], eo', add .i64 i 1, some ⟨x1, x2, x3, x4⟩) ⟨hi', hl2, by simp only; rw [heo', mvs, mvs, sel_t (by unfold isFr; simp only [c, c', Bool.and_self])]⟩ (by simp)
    ·refine ih (suf, pre ++ [⟨x1, x2, x3, x4⟩], eo, add .i64 i 1, some ⟨x1, x2, x3, x4⟩) ⟨hi', hl2, by simp only; rw [hb, mvs, mvs, sel_f (by unfold isFr; simp only [c, c', Bool.and_false])]⟩ (by simp)
   ·refine ih (suf, pre ++ [⟨x1, x2, x3, x4⟩], eo, add .i64 i 1, some ⟨x1, x2, x3, x4⟩) ⟨hi', hl2, by simp only; rw [hb, mvs, mvs, sel_f (by unfold isFr; simp only [c, Bool.false_and])]⟩ (by simp)
theorem ok232 (x lo hi : Int) : fix Tb md 232 [I x, I lo, I hi] = some ⟨[B (inR x lo hi)], [], none⟩ := by
 refine fix_fn (fn := ir232) tb_232 rfl rfl (by decide) rfl ?_; simp only [shutArgs, shutS, List.map_cons, List.map_nil, ir232, List.head?_nil, reduceCtorEq, if_false, sExt, sHello, sAnswer, sEdit, sDeal, sBox, sDialed, sKnown]
 generalize hr : (⟨_, [], none⟩ : Ret) = r
 intro add sub mul arith eq ne lt le gt ge neg conv mn mx not beq len at' ln bd cut app allS isNil mks set o hP F ho
 cbv
 repeat' (first | (refine both (fun c => ?_) (fun c => ?_) <;> (try rw [c]) <;> (try cbv)))
 all_goals (clear hP  ho; try simp only [F.eq, F.ne, F.le, F.lt, F.ge, F.gt, F.not, F.beq] at *; clear F; subst hr)
 all_goals (simp_all [inR] <;> (intros; omega))
end Go.Vm
