/- What the functions answer. -/
import Derived.Test.YtjlddmnohjohaaaL3Tab
set_option linter.unusedVariables false
set_option linter.unusedSimpArgs false
namespace Go.Vm

/- laws.szIntS -/
def sz1 (n : Nat) (left : Int) : Int := if left - (n : Int) < 0 then -1 else left - (n : Int)
theorem sz1_le {n : Nat} {left : Int} (h : 0 ≤ sz1 n left) : (n : Int) ≤ left ∧ sz1 n left ≤ left := by unfold sz1 at *; split at h <;> split <;> omega
theorem sz1_rng {n : Nat} {left : Int} (h2 : left ≤ 1048576) : -1 ≤ sz1 n left ∧ sz1 n left ≤ 1048576 := by unfold sz1; split <;> omega
theorem sz1_neg {n : Nat} {left : Int} (h1 : left < 0) : sz1 n left = -1 := by unfold sz1; split <;> omega
theorem ok227 {α : Type} (f : α → List V) (l : List α) (left : Int) (h : l.length ≤ 9223372036854775807) (h1 : 0 ≤ left) (h2 : left ≤ 1048576) {f0 : Fl} (h0 : inFl f0 = true) : fix Tb md 227 [R (row f l) f0, I left] = some ⟨[I (sz1 l.length left)], [], none⟩ := by
  by_cases hl : left - l.length < 0
  · rw [show sz1 l.length left = -1 by unfold sz1; rw [if_pos hl]]
    refine fix_fn (fn := ir227) tb_227 rfl rfl (by decide) rfl ?_; simp only [shutArgs, shutS, List.map_cons, List.map_nil, ir227, shut_in h0, List.head?_nil, reduceCtorEq, if_false]
    generalize hr : (⟨_, [], none⟩ : Ret) = r
    obtain ⟨ea, hea⟩ : ∃ y, y = row f l := ⟨_, rfl⟩
    rw [← hea]
    intro add sub mul arith eq ne lt le gt ge neg conv mn mx not beq len at' ln bd cut app allS isNil mks set o hP F ho
    have le := F.len_at hea
    unfold At at le
    have hs : lt (sub .i64 left (len ea)) 0 = true := by rw [F.lt, F.sub, le, wrap64 (by omega) (by omega)]; simp; omega
    cbv
    rw [hs]
    cbv
    exact congrArg some hr
  · rw [show sz1 l.length left = left - l.length by unfold sz1; rw [if_neg hl]]
    refine fix_fn (fn := ir227) tb_227 rfl rfl (by decide) rfl ?_; simp only [shutArgs, shutS, List.map_cons, List.map_nil, ir227, shut_in h0, List.head?_nil, reduceCtorEq, if_false]
    obtain ⟨v, hv⟩ : ∃ y, y = left - l.length := ⟨_, rfl⟩
    rw [← hv]
    generalize hr : (⟨_, [], none⟩ : Ret) = r
    obtain ⟨ea, hea⟩ : ∃ y, y = row f l := ⟨_, rfl⟩
    rw [← hea]
    intro add sub mul arith eq ne lt le gt ge neg conv mn mx not beq len at' ln bd cut app allS isNil mks set o hP F ho
    have le := F.len_at hea
    unfold At at le
    have e1 : sub .i64 left (len ea) = v := by rw [F.sub, le, wrap64 (by omega) (by omega), hv]
    have hs : lt v 0 = false := by rw [F.lt, hv]; simp; omega
    cbv
    rw [e1, hs]
    cbv
    exact congrArg some hr

/- laws.szBox -/
theorem ok56 (limit : Int) (drops strips : List Int) (lists : Bool) (left : Int) (hd : drops.length ≤ 9223372036854775807) (hs : strips.length ≤ 9223372036854775807) (h1 : 0 ≤ left) (h2 : left ≤ 1048576) {f0 f1 : Fl} (h0 : inFl f0 = true) (h3 : inFl f1 = true) :
    fix Tb md 56 [⟨.agg, [⟨.int .i64 limit, .sc⟩, ⟨.row () (row fI drops), f0⟩, ⟨.row () (row fI strips), f1⟩, ⟨.bool lists, .sc⟩]⟩, I left] = some ⟨[I (sz1 strips.length (sz1 drops.length left))], [], none⟩ := by
  refine fix_fn (fn := ir56) tb_56 rfl rfl (by decide) rfl ?_; simp only [shutArgs, shutS, List.map_cons, List.map_nil, ir56, shut_in h0, shut_in h3, List.head?_nil, reduceCtorEq, if_false]
  generalize hr : (⟨_, [], none⟩ : Ret) = r
  obtain ⟨ed, hed⟩ : ∃ y, y = row fI drops := ⟨_, rfl⟩
  obtain ⟨es, hes⟩ : ∃ y, y = row fI strips := ⟨_, rfl⟩
  rw [← hed, ← hes]
  obtain ⟨v1, hv1⟩ : ∃ y, y = sz1 drops.length left := ⟨_, rfl⟩
  obtain ⟨v2, hv2⟩ : ∃ y, y = sz1 strips.length v1 := ⟨_, rfl⟩
  intro add sub mul arith eq ne lt le gt ge neg conv mn mx not beq len at' ln bd cut app allS isNil mks set o hP F ho
  have g := sz1_rng (n := drops.length) h2
  rw [← hv1] at g
  have c1 : o 227 [R ed (.sp 0 0), I left] = some ⟨[I v1], [], none⟩ := by rw [ho, hv1, hed]; exact ok227 _ _ _ hd h1 h2 rfl
  have c2 : 0 ≤ v1 → o 227 [R es (.sp 0 0), I v1] = some ⟨[I v2], [], none⟩ := by intro q; rw [ho, hv2, hes]; exact ok227 _ _ _ hs q g.2 rfl
  cbv
  rw [c1]; cbv
  refine both (fun c => ?_) (fun c => ?_) <;> rw [c] <;> cbv
  · clear hP c1 c2 ho; subst hr; simp only [F.lt, decide_eq_true_eq] at c; rw [← hv1, sz1_neg c]
  · have q : 0 ≤ v1 := by simp only [F.lt, decide_eq_false_iff_not] at c; omega
    rw [c2 q]; cbv
    refine both (fun c => ?_) (fun c => ?_) <;> rw [c] <;> cbv
    · clear hP c1 c2 ho; subst hr; simp only [F.lt, decide_eq_true_eq] at c; rw [← hv1, ← hv2]
      have := sz1_rng (n := strips.length) g.2
      rw [← hv2] at this
      rw [show v2 = -1 by omega]
    · rw [← hr, ← hv1, ← hv2]

/- spec.l1In -/
theorem ok230 (n lo hi : Int) : fix Tb md 230 [I n, I lo, I hi] = some ⟨[B (inR n lo hi)], [], none⟩ := by
  refine fix_fn (fn := ir230) tb_230 rfl rfl (by decide) rfl ?_; simp only [shutArgs, shutS, List.map_cons, List.map_nil, ir230, List.head?_nil, reduceCtorEq, if_false]
  generalize hr : (⟨_, [], none⟩ : Ret) = r
  intro add sub mul arith eq ne lt le gt ge neg conv mn mx not beq len at' ln bd cut app allS isNil mks set o hP F ho
  cbv
  repeat' (refine both (fun c => ?_) (fun c => ?_) <;> (try rw [c]) <;> (try cbv))
  all_goals (simp only [F.le, F.ge, F.lt, F.gt] at *; subst hr; (try simp_all [inR]) <;> (try omega))

/- spec.l9Byte -/
theorem ok231 (l : List Int) (hl : l.length ≤ 1099511627776) {f0 : Fl} (h0 : inFl f0 = true) : fix Tb md 231 [R (row fI l) f0] = some ⟨[B (bytes l)], [], none⟩ := by
  refine fix_fn (fn := ir231) tb_231 rfl rfl (by decide) rfl ?_; simp only [shutArgs, shutS, List.map_cons, List.map_nil, ir231, shut_in h0, List.head?_nil, reduceCtorEq, if_false]
  generalize hr : (⟨_, [], none⟩ : Ret) = r
  obtain ⟨ea, hea⟩ : ∃ y, y = row fI l := ⟨_, rfl⟩
  rw [← hea]
  intro add sub mul arith eq ne lt le gt ge neg conv mn mx not beq len at' ln bd cut app allS isNil mks set o hP F ho
  have la := F.len_at hea
  cbv
  refine loop_ind hP (σ := List Int × List Int × Int) (fun s => [(0, R ea .sh), (2, B false), (3, I s.2.2)]) (fun s => At s.2.2 s.1.length ∧ l = s.1 ++ s.2.1 ∧ bytes s.1 = true) (fun s => s.2.1.length) ([], l, 0) rfl ⟨rfl, rfl, rfl⟩ ?_
  rintro ⟨pre, suf, i⟩ ⟨hi, hl', hb⟩ ih
  simp only at hi hl' hb ih
  cbv
  cases suf with
  | nil =>
    rw [F.lt_f hi la (by simp [hl'])]; cbv
    rw [← hr, hl']; simp [hb]
  | cons x suf =>
    rw [F.lt_t hi la (by simp [hl'])]; cbv
    obtain ⟨ix, hix⟩ : ∃ y, y = pre.length * 1 := ⟨_, rfl⟩
    rw [show at' 1 ea i = some (ix, [.int .i64 x]) by rw [hix]; exact F.get hi hea hl' (fun _ => rfl) (by decide)]; cbv
    obtain ⟨v, hv⟩ : ∃ y, y = inR x 0 255 := ⟨_, rfl⟩
    rw [show o 230 [I x, I 0, I 255] = some ⟨[B v], [], none⟩ by rw [ho, hv]; exact ok230 x 0 255]; cbv
    refine both (fun c => ?_) (fun c => ?_) <;> rw [c] <;> cbv
    · rw [← hr, hl']
      rw [F.not] at c
      simp [bytes] at *
      simp_all
    · rw [F.not] at c
      simp at c
      refine ih (pre ++ [x], suf, add .i64 i 1) ⟨at_len (F.inc hi (by simp [hl'] at hl; omega)) (by simp), by simp [hl'], ?_⟩ (by simp)
      simp [bytes] at *
      simp_all

/- spec.IsBox -/
def isBox (limit : Int) (drops strips : List Int) : Bool := inR limit 0 9 && decide (drops.length ≤ 6) && decide (strips.length ≤ 6) && bytes drops && bytes strips
theorem ok68 (limit : Int) (drops strips : List Int) (lists : Bool) (hd : drops.length ≤ 1099511627776) (hs : strips.length ≤ 1099511627776) {f0 f1 : Fl} (h0 : inFl f0 = true) (h1 : inFl f1 = true) :
    fix Tb md 68 [⟨.agg, [⟨.int .i64 limit, .sc⟩, ⟨.row () (row fI drops), f0⟩, ⟨.row () (row fI strips), f1⟩, ⟨.bool lists, .sc⟩]⟩] = some ⟨[B (isBox limit drops strips)], [], none⟩ := by
  refine fix_fn (fn := ir68) tb_68 rfl rfl (by decide) rfl ?_; simp only [shutArgs, shutS, List.map_cons, List.map_nil, ir68, shut_in h0, shut_in h1, List.head?_nil, reduceCtorEq, if_false]
  generalize hr : (⟨_, [], none⟩ : Ret) = r
  obtain ⟨ed, hed⟩ : ∃ y, y = row fI drops := ⟨_, rfl⟩
  obtain ⟨es, hes⟩ : ∃ y, y = row fI strips := ⟨_, rfl⟩
  rw [← hed, ← hes]
  obtain ⟨v1, hv1⟩ : ∃ y, y = inR limit 0 9 := ⟨_, rfl⟩
  obtain ⟨v2, hv2⟩ : ∃ y, y = bytes drops := ⟨_, rfl⟩
  obtain ⟨v3, hv3⟩ : ∃ y, y = bytes strips := ⟨_, rfl⟩
  intro add sub mul arith eq ne lt le gt ge neg conv mn mx not beq len at' ln bd cut app allS isNil mks set o hP F ho
  have ld := F.len_at hed
  have ls := F.len_at hes
  have c1 : o 230 [I limit, I 0, I 9] = some ⟨[B v1], [], none⟩ := by rw [ho, hv1]; exact ok230 ..
  have c2 : o 231 [R ed (.sp 0 0)] = some ⟨[B v2], [], none⟩ := by rw [ho, hv2, hed]; exact ok231 _ hd rfl
  have c3 : o 231 [R es (.sp 0 0)] = some ⟨[B v3], [], none⟩ := by rw [ho, hv3, hes]; exact ok231 _ hs rfl
  cbv
  repeat' (first | (rw [c1]; cbv) | (rw [c2]; cbv) | (rw [c3]; cbv) | (refine both (fun c => ?_) (fun c => ?_) <;> (try rw [c]) <;> (try cbv)))
  all_goals (clear hP c1 c2 c3 ho; unfold At at ld ls; try simp only [F.eq, F.ne, F.le, F.lt, F.ge, F.gt, F.not, F.beq, ld, ls] at *; clear F; subst hr)
  all_goals (simp_all [isBox] <;> (intros; omega))

/- spec.IsClear -/
def isClear (limit : Int) (drops strips : List Int) (lists : Bool) : Bool := decide (limit = 0) && drops.isEmpty && strips.isEmpty && !lists
theorem ok57 (limit : Int) (drops strips : List Int) (lists : Bool) (hd : drops.length ≤ 1099511627776) (hs : strips.length ≤ 1099511627776) {f0 f1 : Fl} (h0 : inFl f0 = true) (h1 : inFl f1 = true) :
    fix Tb md 57 [⟨.agg, [⟨.int .i64 limit, .sc⟩, ⟨.row () (row fI drops), f0⟩, ⟨.row () (row fI strips), f1⟩, ⟨.bool lists, .sc⟩]⟩] = some ⟨[B (isClear limit drops strips lists)], [], none⟩ := by
  refine fix_fn (fn := ir57) tb_57 rfl rfl (by decide) rfl ?_; simp only [shutArgs, shutS, List.map_cons, List.map_nil, ir57, shut_in h0, shut_in h1, List.head?_nil, reduceCtorEq, if_false]
  generalize hr : (⟨_, [], none⟩ : Ret) = r
  obtain ⟨ed, hed⟩ : ∃ y, y = row fI drops := ⟨_, rfl⟩
  obtain ⟨es, hes⟩ : ∃ y, y = row fI strips := ⟨_, rfl⟩
  rw [← hed, ← hes]
  obtain ⟨v1, hv1⟩ : ∃ y, y = isBox limit drops strips := ⟨_, rfl⟩
  intro add sub mul arith eq ne lt le gt ge neg conv mn mx not beq len at' ln bd cut app allS isNil mks set o hP F ho
  have ld := F.len_at hed
  have ls := F.len_at hes
  have c1 : o 68 [⟨.agg, [⟨.int .i64 limit, .sc⟩, ⟨.row () ed, .sp 0 1⟩, ⟨.row () es, .sp 0 2⟩, ⟨.bool lists, .sc⟩]⟩] = some ⟨[B v1], [], none⟩ := by rw [ho, hv1, hed, hes]; exact ok68 _ _ _ _ hd hs rfl rfl
  cbv
  repeat' (first | (rw [c1]; cbv) | (refine both (fun c => ?_) (fun c => ?_) <;> (try rw [c]) <;> (try cbv)))
  all_goals (clear hP c1 ho; unfold At at ld ls; simp only [F.eq, F.not, ld, ls] at *; clear F; subst hr)
  all_goals (simp_all [isClear])
  intro e1 e2 e3
  subst e1 e2 e3
  simp [isBox, inR, bytes] at hv1

/- laws.toIntS -/
theorem ok76 (l : List Int) (hl : l.length ≤ 1099511627776) {f0 : Fl} (h0 : inFl f0 = true) : fix Tb md 76 [R (row fI l) f0] = some ⟨[R (row fI l) (.ow false)], [], none⟩ := by
  refine fix_fn (fn := ir76) tb_76 rfl rfl (by decide) rfl ?_; simp only [shutArgs, shutS, List.map_cons, List.map_nil, ir76, shut_in h0, List.head?_nil, reduceCtorEq, if_false]
  generalize hr : (⟨_, [], none⟩ : Ret) = r
  obtain ⟨e1, he1⟩ : ∃ y, y = row fI l := ⟨_, rfl⟩
  rw [← he1] at hr ⊢
  intro add sub mul arith eq ne lt le gt ge neg conv mn mx not beq len at' ln bd cut app allS isNil mks set o hP F ho
  have la := F.len_at he1
  cbv
  obtain ⟨e2, he2⟩ : ∃ y, y = row fI (List.replicate l.length 0) := ⟨_, rfl⟩
  rw [show mks [.int .i64 0] (len e1) (len e1) = some e2 by rw [F.mks, show len e1 = _ from la, he2]; exact row_mk (f := fI) (a := 0) rfl (by simp [fI]) hl]; cbv
  refine loop_ind hP (σ := List Int × List Int × List (List V) × Int) (fun s => [(0, R e1 .sh), (2, R [] .nl), (3, R s.2.2.1 (.ow false)), (4, I s.2.2.2)])
    (fun s => At s.2.2.2 s.2.1.length ∧ l = s.2.1 ++ s.1 ∧ s.2.2.1 = row fI (s.2.1 ++ List.replicate s.1.length 0)) (fun s => s.1.length) (l, [], e2, 0) rfl ⟨rfl, rfl, by simpa using he2⟩ ?_
  rintro ⟨suf, pre, eo, i⟩ ⟨hi, hl', heo⟩ ih
  simp only at hi hl' heo ih
  cbv
  cases suf with
  | nil =>
    rw [F.lt_f hi la (by simp [hl'])]; cbv
    rw [← hr, heo, he1, hl']; simp
  | cons x suf =>
    rw [F.lt_t hi la (by simp [hl'])]; cbv
    obtain ⟨ix, hix⟩ : ∃ y, y = pre.length * 1 := ⟨_, rfl⟩
    rw [show at' 1 e1 i = some (ix, [.int .i64 x]) by rw [hix]; exact F.get hi he1 hl' (fun _ => rfl) (by decide)]; cbv
    rw [show at' 1 eo i = some (ix, [.int .i64 0]) by rw [hix]; exact F.get hi heo rfl (fun _ => rfl) (by decide)]; cbv
    obtain ⟨eo', heo'⟩ : ∃ y, y = row fI (pre ++ x :: List.replicate suf.length 0) := ⟨_, rfl⟩
    rw [show set eo ix [.int .i64 x] = some eo' by rw [F.set, heo, hix, heo']; exact set_one (fun _ => rfl) rfl]; cbv
    refine ih (suf, pre ++ [x], eo', add .i64 i 1) ⟨at_len (F.inc hi (by simp [hl'] at hl; omega)) (by simp), by simp [hl'], by simp [heo']⟩ (by simp)

/- laws.toBox -/
theorem ok58 (limit : Int) (drops strips : List Int) (lists : Bool) (hd : drops.length ≤ 1099511627776) (hs : strips.length ≤ 1099511627776) {f0 f1 : Fl} (h0 : inFl f0 = true) (h1 : inFl f1 = true) :
    fix Tb md 58 [⟨.agg, [⟨.int .i64 limit, .sc⟩, ⟨.row () (row fI drops), f0⟩, ⟨.row () (row fI strips), f1⟩, ⟨.bool lists, .sc⟩]⟩] = some ⟨[⟨.agg, [⟨.int .i64 limit, .sc⟩, ⟨.row () (row fI drops), .ow false⟩, ⟨.row () (row fI strips), .ow false⟩, ⟨.bool lists, .sc⟩]⟩], [], none⟩ := by
  refine fix_fn (fn := ir58) tb_58 rfl rfl (by decide) rfl ?_; simp only [shutArgs, shutS, List.map_cons, List.map_nil, ir58, shut_in h0, shut_in h1, List.head?_nil, reduceCtorEq, if_false]
  generalize hr : (⟨_, [], none⟩ : Ret) = r
  obtain ⟨ed, hed⟩ : ∃ y, y = row fI drops := ⟨_, rfl⟩
  obtain ⟨es, hes⟩ : ∃ y, y = row fI strips := ⟨_, rfl⟩
  rw [← hed, ← hes] at hr ⊢
  intro add sub mul arith eq ne lt le gt ge neg conv mn mx not beq len at' ln bd cut app allS isNil mks set o hP F ho
  have c1 : o 76 [R ed (.sp 0 0)] = some ⟨[R ed (.ow false)], [], none⟩ := by rw [ho, hed]; exact ok76 _ hd rfl
  have c2 : o 76 [R es (.sp 0 0)] = some ⟨[R es (.ow false)], [], none⟩ := by rw [ho, hes]; exact ok76 _ hs rfl
  cbv
  repeat' (first | (rw [c1]; cbv) | (rw [c2]; cbv))
  exact congrArg some hr

/- impl.IsClear -/
theorem ok59 (limit : Int) (drops strips : List Int) (lists : Bool) {f0 f1 : Fl} (h0 : inFl f0 = true) (h1 : inFl f1 = true) :
    fix Tb md 59 [⟨.agg, [⟨.int .i64 limit, .sc⟩, ⟨.row () (row fI drops), f0⟩, ⟨.row () (row fI strips), f1⟩, ⟨.bool lists, .sc⟩]⟩] = some ⟨[B (isClear limit drops strips lists)], [], none⟩ := by
  refine fix_fn (fn := ir59) tb_59 rfl rfl (by decide) rfl ?_; simp only [shutArgs, shutS, List.map_cons, List.map_nil, ir59, shut_in h0, shut_in h1, List.head?_nil, reduceCtorEq, if_false]
  generalize hr : (⟨_, [], none⟩ : Ret) = r
  obtain ⟨ed, hed⟩ : ∃ y, y = row fI drops := ⟨_, rfl⟩
  obtain ⟨es, hes⟩ : ∃ y, y = row fI strips := ⟨_, rfl⟩
  rw [← hed, ← hes]
  intro add sub mul arith eq ne lt le gt ge neg conv mn mx not beq len at' ln bd cut app allS isNil mks set o hP F ho
  have ld := F.len_at hed
  have ls := F.len_at hes
  cbv
  repeat' (first | (refine both (fun c => ?_) (fun c => ?_) <;> (try rw [c]) <;> (try cbv)))
  all_goals (clear hP  ho; unfold At at ld ls; try simp only [F.eq, F.ne, F.le, F.lt, F.ge, F.gt, F.not, F.beq, ld, ls] at *; clear F; subst hr)
  all_goals (simp_all [isClear] <;> (intros; omega))

/- laws.eqIntS -/
theorem ok79 (a b : List Int) (hl : a.length ≤ 1099511627776) {f0 f1 : Fl} (h0 : inFl f0 = true) (h1 : inFl f1 = true) : fix Tb md 79 [R (row fI a) f0, R (row fI b) f1] = some ⟨[B (decide (a = b))], [], none⟩ := by
  refine fix_fn (fn := ir79) tb_79 rfl rfl (by decide) rfl ?_; simp only [shutArgs, shutS, List.map_cons, List.map_nil, ir79, shut_in h0, shut_in h1, List.head?_nil, reduceCtorEq, if_false]
  generalize hr : (⟨_, [], none⟩ : Ret) = r
  obtain ⟨ea, hea⟩ : ∃ y, y = row fI a := ⟨_, rfl⟩
  obtain ⟨eb, heb⟩ : ∃ y, y = row fI b := ⟨_, rfl⟩
  rw [← hea, ← heb]
  intro add sub mul arith eq ne lt le gt ge neg conv mn mx not beq len at' ln bd cut app allS isNil mks set o hP F ho
  have la := F.len_at hea
  have lb := F.len_at heb
  cbv
  by_cases hab : a.length = b.length
  · rw [F.ne_f (by unfold At at la lb; omega)]; cbv
    refine loop_ind hP (σ := List Int × List Int × List Int × Int) (fun s => [(0, R ea .sh), (1, R eb .sh), (4, B false), (5, I s.2.2.2)]) (fun s => At s.2.2.2 s.1.length ∧ a = s.1 ++ s.2.1 ∧ b = s.1 ++ s.2.2.1) (fun s => s.2.1.length) ([], a, b, 0) rfl ⟨rfl, rfl, rfl⟩ ?_
    rintro ⟨pre, sa, sb, i⟩ ⟨hi, ha, hb⟩ ih
    simp only at hi ha hb ih
    cbv
    have hlen : sa.length = sb.length := by simp [ha, hb] at hab; exact hab
    match sa, sb, hlen, ha, hb with
    | [], [], _, ha, hb =>
      rw [F.lt_f hi la (by simp [ha])]; cbv
      rw [← hr]; simp [ha, hb]
    | x :: sa, y :: sb, _, ha, hb =>
      rw [F.lt_t hi la (by simp [ha])]; cbv
      obtain ⟨ix, hix⟩ : ∃ y, y = pre.length * 1 := ⟨_, rfl⟩
      rw [show at' 1 ea i = some (ix, [.int .i64 x]) by rw [hix]; exact F.get hi hea ha (fun _ => rfl) (by decide)]; cbv
      rw [show at' 1 eb i = some (ix, [.int .i64 y]) by rw [hix]; exact F.get hi heb hb (fun _ => rfl) (by decide)]; cbv
      by_cases hxy : x = y
      · rw [F.ne_f hxy]; cbv
        refine ih (pre ++ [x], sa, sb, add .i64 i 1) ⟨at_len (F.inc hi (by simp [ha] at hl; omega)) (by simp), by simp [ha], by simp [hb, hxy]⟩ (by simp)
      · rw [F.ne_t hxy]; cbv
        rw [← hr]; simp [ha, hb, hxy]
  · rw [F.ne_t (by unfold At at la lb; omega)]; cbv
    rw [← hr]
    simp
    intro e; exact hab (by rw [e])

/- laws.eqBox -/
theorem ok60 (limit : Int) (drops strips : List Int) (lists : Bool) (limit' : Int) (drops' strips' : List Int) (lists' : Bool) (hd : drops.length ≤ 1099511627776) (hs : strips.length ≤ 1099511627776) {f0 f1 g0 g1 : Fl} (h0 : inFl f0 = true) (h1 : inFl f1 = true) (h2 : inFl g0 = true) (h3 : inFl g1 = true) :
    fix Tb md 60 [⟨.agg, [⟨.int .i64 limit, .sc⟩, ⟨.row () (row fI drops), f0⟩, ⟨.row () (row fI strips), f1⟩, ⟨.bool lists, .sc⟩]⟩, ⟨.agg, [⟨.int .i64 limit', .sc⟩, ⟨.row () (row fI drops'), g0⟩, ⟨.row () (row fI strips'), g1⟩, ⟨.bool lists', .sc⟩]⟩] = some ⟨[B (decide (limit = limit' ∧ drops = drops' ∧ strips = strips' ∧ lists = lists'))], [], none⟩ := by
  refine fix_fn (fn := ir60) tb_60 rfl rfl (by decide) rfl ?_; simp only [shutArgs, shutS, List.map_cons, List.map_nil, ir60, shut_in h0, shut_in h1, shut_in h2, shut_in h3, List.head?_nil, reduceCtorEq, if_false]
  generalize hr : (⟨_, [], none⟩ : Ret) = r
  obtain ⟨ed, hed⟩ : ∃ y, y = row fI drops := ⟨_, rfl⟩
  obtain ⟨es, hes⟩ : ∃ y, y = row fI strips := ⟨_, rfl⟩
  obtain ⟨ed', hed'⟩ : ∃ y, y = row fI drops' := ⟨_, rfl⟩
  obtain ⟨es', hes'⟩ : ∃ y, y = row fI strips' := ⟨_, rfl⟩
  rw [← hed, ← hes, ← hed', ← hes']
  obtain ⟨v1, hv1⟩ : ∃ y, y = decide (drops = drops') := ⟨_, rfl⟩
  obtain ⟨v2, hv2⟩ : ∃ y, y = decide (strips = strips') := ⟨_, rfl⟩
  intro add sub mul arith eq ne lt le gt ge neg conv mn mx not beq len at' ln bd cut app allS isNil mks set o hP F ho
  have c1 : o 79 [R ed (.sp 0 0), R ed' (.sp 1 0)] = some ⟨[B v1], [], none⟩ := by rw [ho, hv1, hed, hed']; exact ok79 _ _ hd rfl rfl
  have c2 : o 79 [R es (.sp 0 0), R es' (.sp 1 0)] = some ⟨[B v2], [], none⟩ := by rw [ho, hv2, hes, hes']; exact ok79 _ _ hs rfl rfl
  cbv
  repeat' (first | (rw [c1]; cbv) | (rw [c2]; cbv) | (refine both (fun c => ?_) (fun c => ?_) <;> (try rw [c]) <;> (try cbv)))
  all_goals (clear hP c1 c2 ho; try simp only [F.eq, F.ne, F.le, F.lt, F.ge, F.gt, F.not, F.beq] at *; clear F; subst hr)
  all_goals (simp_all [] <;> (intros; omega))

/- laws.FnExactIsClear -/
theorem law3 (limit : Int) (drops strips : List Int) (lists : Bool) (hd : drops.length ≤ 9223372036854775807) (hs : strips.length ≤ 9223372036854775807) :
    fix Tb md 3 [⟨.agg, [⟨.int .i64 limit, .sc⟩, ⟨.row () (row fI drops), .sp 0 1⟩, ⟨.row () (row fI strips), .sp 0 2⟩, ⟨.bool lists, .sc⟩]⟩] = some ⟨[B true], [], none⟩ := by
  refine fix_fn (fn := ir3) tb_3 rfl rfl (by decide) rfl ?_; simp only [shutArgs, shutS, List.map_cons, List.map_nil, ir3, List.head?_nil, reduceCtorEq, if_false, shut_in (f := .sp 0 1) rfl, shut_in (f := .sp 0 2) rfl]
  generalize hr : (⟨_, [], none⟩ : Ret) = r
  obtain ⟨ed, hed⟩ : ∃ y, y = row fI drops := ⟨_, rfl⟩
  obtain ⟨es, hes⟩ : ∃ y, y = row fI strips := ⟨_, rfl⟩
  rw [← hed, ← hes]
  obtain ⟨v1, hv1⟩ : ∃ y, y = sz1 strips.length (sz1 drops.length 1048576) := ⟨_, rfl⟩
  obtain ⟨v2, hv2⟩ : ∃ y, y = isClear limit drops strips lists := ⟨_, rfl⟩
  intro add sub mul arith eq ne lt le gt ge neg conv mn mx not beq len at' ln bd cut app allS isNil mks set o hP F ho
  have c1 : o 56 [⟨.agg, [⟨.int .i64 limit, .sc⟩, ⟨.row () ed, .sp 0 1⟩, ⟨.row () es, .sp 0 2⟩, ⟨.bool lists, .sc⟩]⟩, I 1048576] = some ⟨[I v1], [], none⟩ := by rw [ho, hv1, hed, hes]; exact ok56 _ _ _ _ _ hd hs (by omega) (by omega) rfl rfl
  cbv
  rw [c1]; cbv
  refine both (fun c => ?_) (fun c => ?_) <;> rw [c] <;> cbv
  · exact congrArg some hr
  simp only [F.lt, decide_eq_false_iff_not] at c
  have g1 := sz1_le (n := strips.length) (left := sz1 drops.length 1048576) (by omega)
  have g2 := sz1_le (n := drops.length) (left := 1048576) (by omega)
  have k1 : drops.length ≤ 1099511627776 := by omega
  have k2 : strips.length ≤ 1099511627776 := by omega
  have c2 : o 58 [⟨.agg, [⟨.int .i64 limit, .sc⟩, ⟨.row () ed, .sp 0 1⟩, ⟨.row () es, .sp 0 2⟩, ⟨.bool lists, .sc⟩]⟩] = some ⟨[⟨.agg, [⟨.int .i64 limit, .sc⟩, ⟨.row () ed, .ow false⟩, ⟨.row () es, .ow false⟩, ⟨.bool lists, .sc⟩]⟩], [], none⟩ := by rw [ho, hed, hes]; exact ok58 _ _ _ _ k1 k2 rfl rfl
  have c3 : o 57 [⟨.agg, [⟨.int .i64 limit, .sc⟩, ⟨.row () ed, .sp 0 1⟩, ⟨.row () es, .sp 0 2⟩, ⟨.bool lists, .sc⟩]⟩] = some ⟨[B v2], [], none⟩ := by rw [ho, hed, hes, hv2]; exact ok57 _ _ _ _ k1 k2 rfl rfl
  have c4 : o 59 [⟨.agg, [⟨.int .i64 limit, .sc⟩, ⟨.row () ed, .sp 0 1⟩, ⟨.row () es, .sp 0 2⟩, ⟨.bool lists, .sc⟩]⟩] = some ⟨[B v2], [], none⟩ := by rw [ho, hed, hes, hv2]; exact ok59 _ _ _ _ rfl rfl
  have c5 : o 60 [⟨.agg, [⟨.int .i64 limit, .sc⟩, ⟨.row () ed, .sp 0 1⟩, ⟨.row () es, .sp 0 2⟩, ⟨.bool lists, .sc⟩]⟩, ⟨.agg, [⟨.int .i64 limit, .sc⟩, ⟨.row () ed, .sp 1 1⟩, ⟨.row () es, .sp 1 2⟩, ⟨.bool lists, .sc⟩]⟩] = some ⟨[B true], [], none⟩ := by rw [ho, hed, hes]; simpa using ok60 limit drops strips lists limit drops strips lists k1 k2 (f0 := .sp 0 1) (f1 := .sp 0 2) (g0 := .sp 1 1) (g1 := .sp 1 2) rfl rfl rfl rfl
  rw [c2]; cbv
  rw [c3]; cbv
  try (rw [c2]; cbv)
  try (rw [c4]; cbv)
  refine both (fun c => ?_) (fun c => ?_) <;> rw [c] <;> cbv
  · rw [F.beq, F.not] at c; simp at c
  try (rw [c2]; cbv)
  rw [c5]; cbv
  rw [F.not]; cbv
  exact congrArg some hr
theorem ans3 : Answers Tb md 3 [(true, [.int .i64, .row [.int .i64], .row [.int .i64], .bool])] := answers_of (by
  intro vs h
  obtain ⟨_, _, rfl, h1, h⟩ := fitL_cons h
  obtain ⟨_, _, rfl, h2, h⟩ := fitL_cons h
  obtain ⟨_, _, rfl, h3, h⟩ := fitL_cons h
  obtain ⟨_, _, rfl, h4, h⟩ := fitL_cons h
  cases fitL_nil h
  obtain ⟨limit, rfl, _⟩ := fit_i64 h1
  obtain ⟨drops, rfl, hd, _⟩ := fit_ints h2
  obtain ⟨strips, rfl, hs, _⟩ := fit_ints h3
  obtain ⟨lists, rfl⟩ := fit_bool h4
  exact law3 limit drops strips lists hd hs)

end Go.Vm
