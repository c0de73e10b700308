/- What the functions answer. -/
import Derived.Test.YtokkeikhghanpaaGATab
import Derived.Test.YtokkeikhghanpaaGAFA
import Derived.Test.YtokkeikhghanpaaGAFB
import Derived.Test.YtokkeikhghanpaaGAFC
import Derived.Test.YtokkeikhghanpaaGAFG
set_option maxHeartbeats 4000000
set_option maxRecDepth 10000
set_option linter.unusedVariables false
set_option linter.unusedSimpArgs false
namespace Go.Vm
theorem ok320 (x : Ext) (w : x.Mid) {f0 : Fl} (q0 : inFl f0 = true) :
  fix Tb md 320 [sExt x.tag (row fI x.body) f0] = some ⟨[sExt x.tag (row fI x.body) (.ow false)], [], none⟩ := by
 refine fix_fn (fn := ir320) tb_320 rfl rfl (by decide) rfl ?_; simp only [shutArgs, shutS, List.map_cons, List.map_nil, ir320, shut_in q0, List.head?_nil, reduceCtorEq, if_false, sExt, sHello, sAnswer, sEdit, sDeal, sBox, sDialed, sKnown]
 generalize hr : (⟨_, [], none⟩ : Ret) = r
 obtain ⟨e1, he1⟩ := nm (row fI x.body)
 rw [← he1] at hr ⊢
 unfold Ext.Mid at w
 intro add sub mul arith eq ne lt le gt ge neg conv mn mx not beq len at' ln bd cut app allS isNil mks set o hP F ho
 have c1 : o 76 [R e1 (.sp 0 0)] = some ⟨[R e1 (.ow false)], [], none⟩ := by rw [ho, he1]; exact ok76 _ (by have := w; omega) rfl
 cbv
 rw [c1]; cbv
 exact congrArg some hr
theorem ok199 (l : List (Ext)) (w : l.length ≤ 1073741824 ∧ ∀ y ∈ l, y.Mid) {f0 : Fl} (q0 : inFl f0 = true) :
  fix Tb md 199 [R (row fExt l) f0] = some ⟨[R (row fExt l) (.ow false)], [], none⟩ := by
 have w1 := w.1
 refine fix_fn (fn := ir199) tb_199 rfl rfl (by decide) rfl ?_; simp only [shutArgs, shutS, List.map_cons, List.map_nil, ir199, shut_in q0, List.head?_nil, reduceCtorEq, if_false, sExt, sHello, sAnswer, sEdit, sDeal, sBox, sDialed, sKnown]
 generalize hr : (⟨_, [], none⟩ : Ret) = r
 obtain ⟨ea, hea⟩ := nm (row fExt l)
 rw [← hea] at hr ⊢
 intro add sub mul arith eq ne lt le gt ge neg conv mn mx not beq len at' ln bd cut app allS isNil mks set o hP F ho
 have la := F.len_at hea
 cbv
 obtain ⟨e0, he0⟩ := nm (row fExt (List.replicate l.length (⟨0, []⟩ : Ext)))
 rw [show mks [.int .i64 0, .row () []] (len ea) (len ea) = some e0 by rw [F.mks, show len ea = _ from la, he0]; exact row_mk (f := fExt) (a := (⟨0, []⟩ : Ext)) rfl (by simp [fExt]) (show l.length ≤ 1099511627776 by omega)]; cbv
 refine loop_ind hP (σ := List (Ext) × List (Ext) × List (List V) × Int) (fun s => [(0, R ea .sh), (2, R [] .nl), (3, R s.2.2.1 (.ow false)), (4, I s.2.2.2)])
  (fun s => At s.2.2.2 s.2.1.length ∧ l = s.2.1 ++ s.1 ∧ s.2.2.1 = row fExt (s.2.1 ++ List.replicate s.1.length (⟨0, []⟩ : Ext))) (fun s => s.1.length) (l, [], e0, 0) rfl ⟨rfl, rfl, by simpa using he0⟩ ?_
 rintro ⟨suf, pre, eo, i⟩ ⟨hi, hl', heo⟩ ih
 simp only at hi hl' heo ih
 cbv
 cases suf with
 | nil =>
  rw [F.lt_f hi la (by simp [hl'])]; cbv
  rw [← hr, heo, hea, hl']; simp
 | cons x suf =>
  rw [F.lt_t hi la (by simp [hl'])]; cbv
  obtain ⟨e1, he1⟩ := nm (row fI x.body)
  obtain ⟨ix, hix⟩ := nm (pre.length * 2)
  rw [show at' 2 ea i = some (ix, [.int .i64 x.tag, .row () e1]) by rw [hix, he1]; exact F.get hi hea hl' (fun _ => rfl) (by decide)]; cbv
  have c1 : o 320 [sExt x.tag e1 (.sp 0 1)] = some ⟨[sExt x.tag e1 (.ow false)], [], none⟩ := by rw [ho, he1]; exact ok320 x (w.2 x (by rw [hl']; simp)) rfl
  rw [c1]; cbv
  rw [show at' 2 eo i = some (ix, [.int .i64 0, .row () []]) by rw [hix]; exact F.get hi heo rfl (fun _ => rfl) (by decide)]; cbv
  obtain ⟨eo', heo'⟩ := nm (row fExt (pre ++ x :: List.replicate suf.length (⟨0, []⟩ : Ext)))
  rw [show set eo ix [.int .i64 x.tag, .row () e1] = some eo' by rw [F.set, heo, hix, heo', he1]; exact set_all (fun _ => rfl) rfl]; cbv
  refine ih (suf, pre ++ [x], eo', add .i64 i 1) ⟨at_len (F.inc hi (by simp [hl'] at w1; omega)) (by simp), by simp [hl'], by simp [heo']⟩ (by simp)
theorem ok321 (x : Ext) (w : x.Mid) {f0 : Fl} (q0 : inFl f0 = true) {g0 : Fl} (p0 : inFl g0 = true) :
  fix Tb md 321 [sExt x.tag (row fI x.body) f0, sExt x.tag (row fI x.body) g0] = some ⟨[B true], [], none⟩ := by
 refine fix_fn (fn := ir321) tb_321 rfl rfl (by decide) rfl ?_; simp only [shutArgs, shutS, List.map_cons, List.map_nil, ir321, shut_in q0, shut_in p0, List.head?_nil, reduceCtorEq, if_false, sExt, sHello, sAnswer, sEdit, sDeal, sBox, sDialed, sKnown]
 generalize hr : (⟨_, [], none⟩ : Ret) = r
 obtain ⟨e1, he1⟩ := nm (row fI x.body)
 rw [← he1]
 unfold Ext.Mid at w
 intro add sub mul arith eq ne lt le gt ge neg conv mn mx not beq len at' ln bd cut app allS isNil mks set o hP F ho
 have c1 : o 79 [R e1 (.sp 0 0), R e1 (.sp 1 0)] = some ⟨[B true], [], none⟩ := by rw [ho, he1]; exact ok79t _ (by have := w; omega) rfl rfl
 cbv
 rw [F.ne_f rfl]; cbv
 rw [c1]; cbv
 rw [show not true = false by rw [F.not]; rfl]; cbv
 exact congrArg some hr
theorem ok200 (l : List (Ext)) (w : l.length ≤ 1073741824 ∧ ∀ y ∈ l, y.Mid) {f0 f1 : Fl} (q0 : inFl f0 = true) (q1 : inFl f1 = true) :
  fix Tb md 200 [R (row fExt l) f0, R (row fExt l) f1] = some ⟨[B true], [], none⟩ := by
 have w1 := w.1
 refine fix_fn (fn := ir200) tb_200 rfl rfl (by decide) rfl ?_; simp only [shutArgs, shutS, List.map_cons, List.map_nil, ir200, shut_in q0, shut_in q1, List.head?_nil, reduceCtorEq, if_false, sExt, sHello, sAnswer, sEdit, sDeal, sBox, sDialed, sKnown]
 generalize hr : (⟨_, [], none⟩ : Ret) = r
 obtain ⟨ea, hea⟩ := nm (row fExt l)
 rw [← hea]
 intro add sub mul arith eq ne lt le gt ge neg conv mn mx not beq len at' ln bd cut app allS isNil mks set o hP F ho
 have la := F.len_at hea
 cbv
 rw [F.ne_f rfl]; cbv
 refine loop_ind hP (σ := List (Ext) × List (Ext) × Int) (fun s => [(0, R ea .sh), (1, R ea .sh), (4, B false), (5, I s.2.2)])
  (fun s => At s.2.2 s.2.1.length ∧ l = s.2.1 ++ s.1) (fun s => s.1.length) (l, [], 0) rfl ⟨rfl, rfl⟩ ?_
 rintro ⟨suf, pre, i⟩ ⟨hi, hl'⟩ ih
 simp only at hi hl' ih
 cbv
 cases suf with
 | nil =>
  rw [F.lt_f hi la (by simp [hl'])]; cbv
  exact congrArg some hr
 | cons x suf =>
  rw [F.lt_t hi la (by simp [hl'])]; cbv
  obtain ⟨e1, he1⟩ := nm (row fI x.body)
  obtain ⟨ix, hix⟩ := nm (pre.length * 2)
  have a1 : at' 2 ea i = some (ix, [.int .i64 x.tag, .row () e1]) := by rw [hix, he1]; exact F.get hi hea hl' (fun _ => rfl) (by decide)
  rw [a1]; cbv
  try (rw [a1]; cbv)
  have c1 : o 321 [sExt x.tag e1 (.sp 0 1), sExt x.tag e1 (.sp 1 1)] = some ⟨[B true], [], none⟩ := by rw [ho, he1]; exact ok321 x (w.2 x (by rw [hl']; simp)) rfl rfl
  rw [c1]; cbv
  rw [show not true = false by rw [F.not]; rfl]; cbv
  refine ih (suf, pre ++ [x], add .i64 i 1) ⟨at_len (F.inc hi (by simp [hl'] at w1; omega)) (by simp), by simp [hl']⟩ (by simp)
def wHello (x : Hello) (k : Int) : Hello := ⟨mI x.versions k, mExtS x.exts (k + (x.versions.length : Int))⟩
def nHello (x : Hello) : Nat := x.versions.length + cExtS x.exts
theorem nHello_mid {x : Hello} (w : x.Mid) : nHello x ≤ 2305843016730000000 := by unfold Hello.Mid at w; have h0 := w.1; have h1 := cExtS_mid (show _ from w.2); unfold nHello; omega
theorem nHello_small {x : Hello} (w : x.Small) : nHello x ≤ 2199100000000 := by unfold Hello.Small at w; have h0 := w.1; have h1 := cExtS_small (show _ from w.2); unfold nHello; omega
theorem ok1081 (x : Hello) (k : Int) (hk : Lim k (nHello x)) (w : x.Mid) : fix Tb md 1081 [sHello (row fI x.versions) (row fExt x.exts) (.mp 0) (.mp 1), I k] = some ⟨[I (k + (nHello x : Int))], [.row () (row fI (wHello x k).versions), .row () (row fExt (wHello x k).exts)], none⟩ := by
 have hn : nHello x = x.versions.length + cExtS x.exts := rfl
 unfold Hello.Mid at w
 have a0 : AtK k k 0 := AtK.zero
 obtain ⟨z1, hz1⟩ := nm (k + (x.versions.length : Int))
 have a1 : AtK z1 k (0 + x.versions.length) := hz1 ▸ a0.plus
 have m1 : Lim k (x.versions.length) := a0.lim hk (by omega)
 have n1 : 0 ≤ z1 := by have := m1.nn; omega
 obtain ⟨z2, hz2⟩ := nm (z1 + (cExtS x.exts : Int))
 have a2 : AtK z2 k (0 + x.versions.length + cExtS x.exts) := hz2 ▸ a1.plus
 have m2 : Lim z1 (cExtS x.exts) := a1.lim hk (by omega)
 have n2 : 0 ≤ z2 := by have := m2.nn; omega
 rw [show k + (nHello x : Int) = z2 by rw [a2.same, hn]; simp]
 have x0 : (wHello x k).versions = mI x.versions k := by simp only [wHello, hz1, hz2]
 have x1 : (wHello x k).exts = mExtS x.exts z1 := by simp only [wHello, hz1, hz2]
 rw [x0, x1]
 obtain ⟨g0, hg0⟩ := nm (row fI (mI x.versions k))
 obtain ⟨e0, he0⟩ := nm (row fI x.versions)
 obtain ⟨g1, hg1⟩ := nm (row fExt (mExtS x.exts z1))
 obtain ⟨e1, he1⟩ := nm (row fExt x.exts)
 rw [← hg0, ← he0, ← hg1, ← he1]
 refine fix_fn (fn := ir1081) tb_1081 rfl rfl (by decide) rfl ?_
 generalize hr : (⟨_, [_, _], none⟩ : Ret) = r
 intro add sub mul arith eq ne lt le gt ge neg conv mn mx not beq len at' ln bd cut app allS isNil mks set o hP F ho
 have c1 : o 1080 [R e0 (.mp 0), I k] = some ⟨[I z1], [.row () g0], none⟩ := by rw [ho, hz1, hg0, he0]; exact ok1080 _ _ m1 (Nat.le_trans (w.1) (by decide))
 have c2 : o 1201 [R e1 (.mp 0), I z1] = some ⟨[I z2], [.row () g1], none⟩ := by rw [ho, hz2, hg1, he1]; exact ok1201 _ _ m2 (Nat.le_trans w.2.1 (by decide)) (fun y hy => Nat.le_trans ((w.2.2 y hy)) (by decide))
 cbv
 rw [c1]; cbv
 rw [c2]; cbv
 exact congrArg some hr
theorem ok1081_on (x : Hello) (k : Int) (hk : Lim k (nHello x)) (w : x.Mid) (y1 : x.exts = []) : fix Tb md 1081 [sHello (row fI x.versions) (row fExt x.exts) (.mp 0) .nl, I k] = some ⟨[I (k + (nHello x : Int))], [.row () (row fI (wHello x k).versions)], none⟩ := by
 have hn : nHello x = x.versions.length + cExtS x.exts := rfl
 unfold Hello.Mid at w
 have a0 : AtK k k 0 := AtK.zero
 obtain ⟨z1, hz1⟩ := nm (k + (x.versions.length : Int))
 have a1 : AtK z1 k (0 + x.versions.length) := hz1 ▸ a0.plus
 have m1 : Lim k (x.versions.length) := a0.lim hk (by omega)
 have n1 : 0 ≤ z1 := by have := m1.nn; omega
 obtain ⟨z2, hz2⟩ := nm (z1 + (cExtS x.exts : Int))
 have a2 : AtK z2 k (0 + x.versions.length + cExtS x.exts) := hz2 ▸ a1.plus
 have m2 : Lim z1 (cExtS x.exts) := a1.lim hk (by omega)
 have n2 : 0 ≤ z2 := by have := m2.nn; omega
 rw [show k + (nHello x : Int) = z2 by rw [a2.same, hn]; simp]
 have x0 : (wHello x k).versions = mI x.versions k := by simp only [wHello, hz1, hz2]
 have x1 : (wHello x k).exts = mExtS x.exts z1 := by simp only [wHello, hz1, hz2]
 rw [x0]
 obtain ⟨g0, hg0⟩ := nm (row fI (mI x.versions k))
 obtain ⟨e0, he0⟩ := nm (row fI x.versions)
 have e1 : row fExt x.exts = [] := by rw [y1]; rfl
 rw [← hg0, ← he0, e1]
 refine fix_fn (fn := ir1081) tb_1081 rfl rfl (by decide) rfl ?_
 generalize hr : (⟨_, [_], none⟩ : Ret) = r
 intro add sub mul arith eq ne lt le gt ge neg conv mn mx not beq len at' ln bd cut app allS isNil mks set o hP F ho
 have c1 : o 1080 [R e0 (.mp 0), I k] = some ⟨[I z1], [.row () g0], none⟩ := by rw [ho, hz1, hg0, he0]; exact ok1080 _ _ m1 (Nat.le_trans (w.1) (by decide))
 have c2 : o 1201 [R [] .nl, I z1] = some ⟨[I z2], [], none⟩ := by rw [ho, show z2 = z1 by rw [hz2, y1]; simp [cExtS]]; exact ok1201n _
 cbv
 rw [c1]; cbv
 rw [c2]; cbv
 exact congrArg some hr
theorem ok1081_no (x : Hello) (k : Int) (hk : Lim k (nHello x)) (w : x.Mid) (y0 : x.versions = []) : fix Tb md 1081 [sHello (row fI x.versions) (row fExt x.exts) .nl (.mp 0), I k] = some ⟨[I (k + (nHello x : Int))], [.row () (row fExt (wHello x k).exts)], none⟩ := by
 have hn : nHello x = x.versions.length + cExtS x.exts := rfl
 unfold Hello.Mid at w
 have a0 : AtK k k 0 := AtK.zero
 obtain ⟨z1, hz1⟩ := nm (k + (x.versions.length : Int))
 have a1 : AtK z1 k (0 + x.versions.length) := hz1 ▸ a0.plus
 have m1 : Lim k (x.versions.length) := a0.lim hk (by omega)
 have n1 : 0 ≤ z1 := by have := m1.nn; omega
 obtain ⟨z2, hz2⟩ := nm (z1 + (cExtS x.exts : Int))
 have a2 : AtK z2 k (0 + x.versions.length + cExtS x.exts) := hz2 ▸ a1.plus
 have m2 : Lim z1 (cExtS x.exts) := a1.lim hk (by omega)
 have n2 : 0 ≤ z2 := by have := m2.nn; omega
 rw [show k + (nHello x : Int) = z2 by rw [a2.same, hn]; simp]
 have x0 : (wHello x k).versions = mI x.versions k := by simp only [wHello, hz1, hz2]
 have x1 : (wHello x k).exts = mExtS x.exts z1 := by simp only [wHello, hz1, hz2]
 rw [x1]
 have e0 : row fI x.versions = [] := by rw [y0]; rfl
 obtain ⟨g1, hg1⟩ := nm (row fExt (mExtS x.exts z1))
 obtain ⟨e1, he1⟩ := nm (row fExt x.exts)
 rw [e0, ← hg1, ← he1]
 refine fix_fn (fn := ir1081) tb_1081 rfl rfl (by decide) rfl ?_
 generalize hr : (⟨_, [_], none⟩ : Ret) = r
 intro add sub mul arith eq ne lt le gt ge neg conv mn mx not beq len at' ln bd cut app allS isNil mks set o hP F ho
 have c1 : o 1080 [R [] .nl, I k] = some ⟨[I z1], [], none⟩ := by rw [ho, show z1 = k by rw [hz1, y0]; simp]; exact ok1080n _
 have c2 : o 1201 [R e1 (.mp 0), I z1] = some ⟨[I z2], [.row () g1], none⟩ := by rw [ho, hz2, hg1, he1]; exact ok1201 _ _ m2 (Nat.le_trans w.2.1 (by decide)) (fun y hy => Nat.le_trans ((w.2.2 y hy)) (by decide))
 cbv
 rw [c1]; cbv
 rw [c2]; cbv
 exact congrArg some hr
theorem ok1081_nn (x : Hello) (k : Int) (hk : Lim k (nHello x)) (w : x.Mid) (y0 : x.versions = []) (y1 : x.exts = []) : fix Tb md 1081 [sHello (row fI x.versions) (row fExt x.exts) .nl .nl, I k] = some ⟨[I (k + (nHello x : Int))], [], none⟩ := by
 have hn : nHello x = x.versions.length + cExtS x.exts := rfl
 unfold Hello.Mid at w
 have a0 : AtK k k 0 := AtK.zero
 obtain ⟨z1, hz1⟩ := nm (k + (x.versions.length : Int))
 have a1 : AtK z1 k (0 + x.versions.length) := hz1 ▸ a0.plus
 have m1 : Lim k (x.versions.length) := a0.lim hk (by omega)
 have n1 : 0 ≤ z1 := by have := m1.nn; omega
 obtain ⟨z2, hz2⟩ := nm (z1 + (cExtS x.exts : Int))
 have a2 : AtK z2 k (0 + x.versions.length + cExtS x.exts) := hz2 ▸ a1.plus
 have m2 : Lim z1 (cExtS x.exts) := a1.lim hk (by omega)
 have n2 : 0 ≤ z2 := by have := m2.nn; omega
 rw [show k + (nHello x : Int) = z2 by rw [a2.same, hn]; simp]
 have x0 : (wHello x k).versions = mI x.versions k := by simp only [wHello, hz1, hz2]
 have x1 : (wHello x k).exts = mExtS x.exts z1 := by simp only [wHello, hz1, hz2]
 have e0 : row fI x.versions = [] := by rw [y0]; rfl
 have e1 : row fExt x.exts = [] := by rw [y1]; rfl
 rw [e0, e1]
 refine fix_fn (fn := ir1081) tb_1081 rfl rfl (by decide) rfl ?_
 generalize hr : (⟨_, [], none⟩ : Ret) = r
 intro add sub mul arith eq ne lt le gt ge neg conv mn mx not beq len at' ln bd cut app allS isNil mks set o hP F ho
 have c1 : o 1080 [R [] .nl, I k] = some ⟨[I z1], [], none⟩ := by rw [ho, show z1 = k by rw [hz1, y0]; simp]; exact ok1080n _
 have c2 : o 1201 [R [] .nl, I z1] = some ⟨[I z2], [], none⟩ := by rw [ho, show z2 = z1 by rw [hz2, y1]; simp [cExtS]]; exact ok1201n _
 cbv
 rw [c1]; cbv
 rw [c2]; cbv
 exact congrArg some hr
def wAnswer (x : Answer) (k : Int) : Answer := ⟨x.version, mExtS x.exts k⟩
def nAnswer (x : Answer) : Nat := cExtS x.exts
theorem nAnswer_mid {x : Answer} (w : x.Mid) : nAnswer x ≤ 2305843016730000000 := by unfold Answer.Mid at w; have h0 := cExtS_mid (show _ from w); unfold nAnswer; omega
theorem nAnswer_small {x : Answer} (w : x.Small) : nAnswer x ≤ 2199100000000 := by unfold Answer.Small at w; have h0 := cExtS_small (show _ from w); unfold nAnswer; omega
theorem ok1153 (x : Answer) (k : Int) (hk : Lim k (nAnswer x)) (w : x.Mid) : fix Tb md 1153 [sAnswer x.version (row fExt x.exts) (.mp 0), I k] = some ⟨[I (k + (nAnswer x : Int))], [.row () (row fExt (wAnswer x k).exts)], none⟩ := by
 have hn : nAnswer x = cExtS x.exts := rfl
 unfold Answer.Mid at w
 have a0 : AtK k k 0 := AtK.zero
 obtain ⟨z1, hz1⟩ := nm (k + (cExtS x.exts : Int))
 have a1 : AtK z1 k (0 + cExtS x.exts) := hz1 ▸ a0.plus
 have m1 : Lim k (cExtS x.exts) := a0.lim hk (by omega)
 have n1 : 0 ≤ z1 := by have := m1.nn; omega
 rw [show k + (nAnswer x : Int) = z1 by rw [a1.same, hn]; simp]
 have x0 : (wAnswer x k).exts = mExtS x.exts k := by simp only [wAnswer, hz1]
 rw [x0]
 obtain ⟨g0, hg0⟩ := nm (row fExt (mExtS x.exts k))
 obtain ⟨e0, he0⟩ := nm (row fExt x.exts)
 rw [← hg0, ← he0]
 refine fix_fn (fn := ir1153) tb_1153 rfl rfl (by decide) rfl ?_
 generalize hr : (⟨_, [_], none⟩ : Ret) = r
 intro add sub mul arith eq ne lt le gt ge neg conv mn mx not beq len at' ln bd cut app allS isNil mks set o hP F ho
 have c1 : o 1201 [R e0 (.mp 0), I k] = some ⟨[I z1], [.row () g0], none⟩ := by rw [ho, hz1, hg0, he0]; exact ok1201 _ _ m1 (Nat.le_trans w.1 (by decide)) (fun y hy => Nat.le_trans ((w.2 y hy)) (by decide))
 cbv
 rw [c1]; cbv
 exact congrArg some hr
theorem ok1153_n (x : Answer) (k : Int) (hk : Lim k (nAnswer x)) (w : x.Mid) (y0 : x.exts = []) : fix Tb md 1153 [sAnswer x.version (row fExt x.exts) .nl, I k] = some ⟨[I (k + (nAnswer x : Int))], [], none⟩ := by
 have hn : nAnswer x = cExtS x.exts := rfl
 unfold Answer.Mid at w
 have a0 : AtK k k 0 := AtK.zero
 obtain ⟨z1, hz1⟩ := nm (k + (cExtS x.exts : Int))
 have a1 : AtK z1 k (0 + cExtS x.exts) := hz1 ▸ a0.plus
 have m1 : Lim k (cExtS x.exts) := a0.lim hk (by omega)
 have n1 : 0 ≤ z1 := by have := m1.nn; omega
 rw [show k + (nAnswer x : Int) = z1 by rw [a1.same, hn]; simp]
 have x0 : (wAnswer x k).exts = mExtS x.exts k := by simp only [wAnswer, hz1]
 have e0 : row fExt x.exts = [] := by rw [y0]; rfl
 rw [e0]
 refine fix_fn (fn := ir1153) tb_1153 rfl rfl (by decide) rfl ?_
 generalize hr : (⟨_, [], none⟩ : Ret) = r
 intro add sub mul arith eq ne lt le gt ge neg conv mn mx not beq len at' ln bd cut app allS isNil mks set o hP F ho
 have c1 : o 1201 [R [] .nl, I k] = some ⟨[I z1], [], none⟩ := by rw [ho, show z1 = k by rw [hz1, y0]; simp [cExtS]]; exact ok1201n _
 cbv
 rw [c1]; cbv
 exact congrArg some hr
theorem ok129 (x : Answer) (w : x.Mid) {f0 : Fl} (q0 : inFl f0 = true) {g0 : Fl} (p0 : inFl g0 = true) :
  fix Tb md 129 [sAnswer x.version (row fExt x.exts) f0, sAnswer x.version (row fExt x.exts) g0] = some ⟨[B true], [], none⟩ := by
 refine fix_fn (fn := ir129) tb_129 rfl rfl (by decide) rfl ?_; simp only [shutArgs, shutS, List.map_cons, List.map_nil, ir129, shut_in q0, shut_in p0, List.head?_nil, reduceCtorEq, if_false, sExt, sHello, sAnswer, sEdit, sDeal, sBox, sDialed, sKnown]
 generalize hr : (⟨_, [], none⟩ : Ret) = r
 obtain ⟨e1, he1⟩ := nm (row fExt x.exts)
 rw [← he1]
 unfold Answer.Mid at w
 intro add sub mul arith eq ne lt le gt ge neg conv mn mx not beq len at' ln bd cut app allS isNil mks set o hP F ho
 have c1 : o 200 [R e1 (.sp 0 0), R e1 (.sp 1 0)] = some ⟨[B true], [], none⟩ := by rw [ho, he1]; exact ok200 _ w rfl rfl
 cbv
 rw [F.ne_f rfl]; cbv
 rw [c1]; cbv
 rw [show not true = false by rw [F.not]; rfl]; cbv
 exact congrArg some hr
def bodyOk (l : List Ext) (e : Ext) : Bool := match l.find? (tagP e.tag) with | none => false | some d => decide (d.body = e.body)
def isPart (x h : Hello) : Bool := x.versions.all (hasI h.versions) && x.exts.all (bodyOk h.exts)
theorem ixOf_find {α : Type} (p : α → Bool) : ∀ (l : List α) (i : Int), (l.find? p = none ∧ ixOf p l i = -1) ∨ ∃ (pre : List α) (d : α) (suf : List α), l = pre ++ d :: suf ∧ ixOf p l i = i + (pre.length : Int) ∧ l.find? p = some d
 | [], i => .inl ⟨rfl, rfl⟩
 | x :: l, i => by
  by_cases hx : p x = true
  ·exact .inr ⟨[], x, l, rfl, by unfold ixOf; rw [if_pos hx]; simp, by rw [List.find?_cons, hx]⟩
  ·have hx' : p x = false := by simpa using hx
   rcases ixOf_find p l (i + 1) with ⟨h1, h2⟩ | ⟨pre, d, suf, h1, h2, h3⟩
   ·exact .inl ⟨by rw [List.find?_cons, hx']; exact h1, by unfold ixOf; rw [if_neg hx]; exact h2⟩
   ·exact .inr ⟨x :: pre, d, suf, by rw [h1]; rfl, by unfold ixOf; rw [if_neg hx, h2]; simp; omega, by rw [List.find?_cons, hx']; exact h3⟩
theorem extOf_find (l : List Ext) (t : Int) : (l.find? (tagP t) = none ∧ extOf l t = -1) ∨ ∃ (pre : List Ext) (d : Ext) (suf : List Ext), l = pre ++ d :: suf ∧ At (extOf l t) pre.length ∧ 0 ≤ extOf l t ∧ l.find? (tagP t) = some d := by
 rcases ixOf_find (tagP t) l 0 with ⟨h1, h2⟩ | ⟨pre, d, suf, h1, h2, h3⟩
 ·exact .inl ⟨h1, h2⟩
 ·refine .inr ⟨pre, d, suf, h1, ?_, ?_, h3⟩
  ·unfold At; unfold extOf; rw [h2]; simp
  ·unfold extOf; rw [h2]; omega
def notIn (b : List Int) (x : Int) : Bool := !hasI b x
theorem ok292 (l b : List Int) (hl : l.length ≤ 1073741824) (hb' : b.length ≤ 1073741824) {f0 f1 : Fl} (h0 : inFl f0 = true) (h1 : inFl f1 = true) : fix Tb md 292 [R (row fI l) f0, R (row fI b) f1] = some ⟨[R (row fI (sel (notIn b) idI l)) (.ow false)], [], none⟩ := by
 obtain ⟨et, het⟩ := nm (row fI (sel (notIn b) idI l))
 rw [← het]
 generalize hr : (⟨_, [], none⟩ : Ret) = r
 obtain ⟨ea, hea⟩ := nm (row fI l)
 obtain ⟨eb, heb⟩ := nm (row fI b)
 rw [← hea, ← heb]
 refine fix_fn2 (fn := ir292) tb_292 rfl rfl (by decide) rfl ?_; intro Q hQ; simp only [shutArgs, shutS, List.map_cons, List.map_nil, ir292, shut_in h0, shut_in h1, List.head?_nil, reduceCtorEq, if_false, sExt, sHello, sAnswer, sEdit, sDeal, sBox, sDialed, sKnown]
 intro add sub mul arith eq ne lt le gt ge neg conv mn mx not beq len at' ln bd cut app allS isNil mks set o hP F ho
 have la := F.len_at hea
 cbv
 refine loop_ind2 hP (σ := List Int × List Int × List (List V) × Int) (fun s => [(0, R ea .sh), (1, R eb .sh), (4, R [] .nl), (5, R s.2.2.1 (.ow false)), (6, I s.2.2.2)]) (fun s => At s.2.2.2 s.2.1.length ∧ l = s.2.1 ++ s.1 ∧ s.2.2.1 = row fI (sel (notIn b) idI s.2.1)) (fun s => s.1.length) (l, [], [], 0) rfl ⟨rfl, rfl, rfl⟩ ?_
 intro c1 Q1 hc1 hQ1
 rintro ⟨suf, pre, eo, i⟩ ⟨hi, hl', hb⟩ ih
 simp only at hi hl' hb ih
 cbv
 cases suf with
 | nil =>
  rw [F.lt_f hi la (by simp [hl'])]; cbv
  rw [hQ1]; cbv
  rw [hQ]; cbv
  rw [← hr, het, hb, hl', List.append_nil]
 | cons x suf =>
  obtain ⟨ix, hix⟩ := nm (pre.length * 1)
  have hpre : pre.length ≤ 1073741824 := by rw [hl'] at hl; simp at hl; omega
  have hs : (sel (notIn b) idI pre).length ≤ pre.length := sel_len
  have hi' : At (add .i64 i 1) (pre ++ [x]).length := at_len (F.inc hi (by omega)) (by simp)
  have hl2 : l = (pre ++ [x]) ++ suf := by rw [hl']; simp
  have hmem : x ∈ l := by rw [hl']; simp
  have p0 : at' 1 ea i = some (ix, [.int .i64 x]) := by rw [hix]; exact F.get hi hea hl' (fun _ => rfl) (by decide)
  obtain ⟨v, hv⟩ := nm (hasI b x)
  have hP : notIn b x = !v := by rw [hv]; rfl
  have c2 : o 285 [R eb (.sp 0 0), I x] = some ⟨[B v], [], none⟩ := by rw [ho, hv, heb]; exact ok285 _ _ (by omega) rfl
  rw [F.lt_t hi la (by simp [hl'])]; cbv
  rw [p0]; cbv
  rw [c2]; cbv
  refine both (fun d => ?_) (fun d => ?_) <;> rw [d] <;> cbv
  ·rw [p0]; cbv
   rw [show allS [[.int .i64 x]] = true by rw [F.allS]; rfl]; cbv
   obtain ⟨eo', heo'⟩ := nm (row fI (sel (notIn b) idI pre ++ [idI x]))
   rw [show app 1 eo [[.int .i64 x]] = some eo' by rw [heo']; exact F.push hb (fun _ => rfl) rfl (by omega)]; cbv
   refine ih (suf, pre ++ [x], eo', add .i64 i 1) ⟨hi', hl2, by simp only; rw [heo', sel_t (by rw [hP, F.not_t d]; rfl)]⟩ (by simp)
  ·refine ih (suf, pre ++ [x], eo, add .i64 i 1) ⟨hi', hl2, by simp only; rw [hb, sel_f (by rw [hP, F.not_f d]; rfl)]⟩ (by simp)
def gaP (x : Hello) (e : Ext) : Bool := decide (extOf x.exts e.tag < 0) && inR e.tag 0 255
def gaF (e : Ext) : Int := 1000 + e.tag
def givenV (h x : Hello) : List Int := sel (notIn x.versions) idI h.versions ++ sel (gaP x) gaF h.exts
theorem givenV_len (h x : Hello) : (givenV h x).length ≤ h.versions.length + h.exts.length := by
 unfold givenV
 have h1 : (sel (notIn x.versions) idI h.versions).length ≤ h.versions.length := sel_len
 have h2 : (sel (gaP x) gaF h.exts).length ≤ h.exts.length := sel_len
 rw [List.length_append]; omega
theorem ok287 (l b : List Int) (hl : l.length ≤ 1073741824) (hb' : b.length ≤ 1073741824) {f0 f1 : Fl} (h0 : inFl f0 = true) (h1 : inFl f1 = true) : fix Tb md 287 [R (row fI l) f0, R (row fI b) f1] = some ⟨[R (row fI (sel (notIn b) idI l)) (.ow false)], [], none⟩ := by
 obtain ⟨et, het⟩ := nm (row fI (sel (notIn b) idI l))
 rw [← het]
 generalize hr : (⟨_, [], none⟩ : Ret) = r
 obtain ⟨ea, hea⟩ := nm (row fI l)
 obtain ⟨eb, heb⟩ := nm (row fI b)
 rw [← hea, ← heb]
 refine fix_fn2 (fn := ir287) tb_287 rfl rfl (by decide) rfl ?_; intro Q hQ; simp only [shutArgs, shutS, List.map_cons, List.map_nil, ir287, shut_in h0, shut_in h1, List.head?_nil, reduceCtorEq, if_false, sExt, sHello, sAnswer, sEdit, sDeal, sBox, sDialed, sKnown]
 intro add sub mul arith eq ne lt le gt ge neg conv mn mx not beq len at' ln bd cut app allS isNil mks set o hP F ho
 have la := F.len_at hea
 cbv
 refine loop_ind2 hP (σ := List Int × List Int × List (List V) × Int × Option (Int)) (fun s => match s.2.2.2.2 with | none => [(0, R ea .sh), (1, R eb .sh), (4, R [] .nl), (5, R s.2.2.1 (.ow false)), (9, R ea .sh), (10, I (len ea)), (11, I s.2.2.2.1)] | some j => [(0, R ea .sh), (1, R eb .sh), (4, R [] .nl), (5, R s.2.2.1 (.ow false)), (7, I j), (9, R ea .sh), (10, I (len ea)), (11, I s.2.2.2.1)]) (fun s => At s.2.2.2.1 s.2.1.length ∧ l = s.2.1 ++ s.1 ∧ s.2.2.1 = row fI (sel (notIn b) idI s.2.1)) (fun s => s.1.length) (l, [], [], 0, none) rfl ⟨rfl, rfl, rfl⟩ ?_
 intro c1 Q1 hc1 hQ1
 rintro ⟨suf, pre, eo, i, j⟩ ⟨hi, hl', hb⟩ ih
 simp only at hi hl' hb ih
 rcases j with _ | _
 all_goals
  cbv
  cases suf with
  | nil =>
   rw [F.lt_f hi la (by simp [hl'])]; cbv
   rw [hQ1]; cbv
   rw [hQ]; cbv
   rw [← hr, het, hb, hl', List.append_nil]
  | cons x suf =>
   obtain ⟨ix, hix⟩ := nm (pre.length * 1)
   have hpre : pre.length ≤ 1073741824 := by rw [hl'] at hl; simp at hl; omega
   have hs : (sel (notIn b) idI pre).length ≤ pre.length := sel_len
   have hi' : At (add .i64 i 1) (pre ++ [x]).length := at_len (F.inc hi (by omega)) (by simp)
   have hl2 : l = (pre ++ [x]) ++ suf := by rw [hl']; simp
   have hmem : x ∈ l := by rw [hl']; simp
   have p0 : at' 1 ea i = some (ix, [.int .i64 x]) := by rw [hix]; exact F.get hi hea hl' (fun _ => rfl) (by decide)
   obtain ⟨v, hv⟩ := nm (hasI b x)
   have hP : notIn b x = !v := by rw [hv]; rfl
   have c2 : o 302 [R eb (.sp 0 0), I x] = some ⟨[B v], [], none⟩ := by rw [ho, hv, heb]; exact ok302 _ _ (by omega) rfl
   rw [F.lt_t hi la (by simp [hl'])]; cbv
   rw [p0]; cbv
   rw [c2]; cbv
   refine both (fun d => ?_) (fun d => ?_) <;> rw [d] <;> cbv
   ·rw [show allS [[.int .i64 x]] = true by rw [F.allS]; rfl]; cbv
    obtain ⟨eo', heo'⟩ := nm (row fI (sel (notIn b) idI pre ++ [idI x]))
    rw [show app 1 eo [[.int .i64 x]] = some eo' by rw [heo']; exact F.push hb (fun _ => rfl) rfl (by omega)]; cbv
    refine ih (suf, pre ++ [x], eo', add .i64 i 1, some x) ⟨hi', hl2, by simp only; rw [heo', sel_t (by rw [hP, F.not_t d]; rfl)]⟩ (by simp)
   ·refine ih (suf, pre ++ [x], eo, add .i64 i 1, some x) ⟨hi', hl2, by simp only; rw [hb, sel_f (by rw [hP, F.not_f d]; rfl)]⟩ (by simp)
def inB (n : Int) : Bool := inR n 0 255
def thou (n : Int) : Int := 1000 + n
def tags (l : List Ext) : List Int := sel yesE Ext.tag l
theorem tags_map (l : List Ext) : tags l = l.map Ext.tag := by unfold tags sel; rw [show l.filter yesE = l from List.filter_eq_self.2 (fun _ _ => rfl)]
theorem hasI_tags (l : List Ext) (t : Int) : hasI (tags l) t = l.any (tagP t) := by
 rw [tags_map]; unfold hasI; rw [List.any_map]; rfl
theorem extOf_neg (l : List Ext) (t : Int) : decide (extOf l t < 0) = !hasI (tags l) t := by
 have h1 : decide (0 ≤ extOf l t) = l.any (tagP t) := ixOf_ge (tagP t) l 0 (by decide)
 rw [hasI_tags, ← h1]
 by_cases q : extOf l t < 0
 ·simp [q]
 ·simp [q]; omega
theorem givenV_eq (h x : Hello) : givenV h x = sel (notIn x.versions) idI h.versions ++ sel inB thou (sel (notIn (tags x.exts)) idI (tags h.exts)) := by
 unfold givenV
 congr 1
 rw [sel_idI, tags_map h.exts]
 induction h.exts with
 | nil => rfl
 | cons y l ih =>
  rw [show sel (gaP x) gaF (y :: l) = (if gaP x y = true then [gaF y] else []) ++ sel (gaP x) gaF l by unfold sel; rw [List.filter_cons]; split <;> simp, ih]
  rw [List.map_cons, List.filter_cons]
  have hg : gaP x y = (notIn (tags x.exts) y.tag && inB y.tag) := by unfold gaP notIn inB; rw [extOf_neg]
  rw [hg]
  cases h1 : notIn (tags x.exts) y.tag with
  | false => simp
  | true =>
   rw [if_pos rfl]
   unfold sel
   rw [List.filter_cons]
   cases h2 : inB y.tag with
   | false => simp
   | true => simp [gaF, thou]
set_option maxHeartbeats 2000000 in
theorem ok236 (l : List Ext) (k : Int) (hk : Lim k (cExtS l)) (hl : l.length ≤ 1099511627776) (w0 : ∀ y ∈ l, y.body.length ≤ 1099511627776) {f0 : Fl} (h0 : inFl f0 = true) : fix Tb md 236 [R (row fExt (mExtS l k)) f0, I k] = some ⟨[I (k + (cExtS l : Int))], [], none⟩ := by
 obtain ⟨t, ht⟩ := nm (k + (cExtS l : Int))
 have hT : AtK t k (cExtS l) := ht
 rw [← ht]
 clear ht
 refine fix_fn (fn := ir236) tb_236 rfl rfl (by decide) rfl ?_; simp only [shutArgs, shutS, List.map_cons, List.map_nil, ir236, shut_in h0, List.head?_nil, reduceCtorEq, if_false, sExt, sHello, sAnswer, sEdit, sDeal, sBox, sDialed, sKnown]
 generalize hr : (⟨_, [], none⟩ : Ret) = r
 obtain ⟨ea, hea⟩ := nm (row fExt (mExtS l k))
 rw [← hea]
 intro add sub mul arith eq ne lt le gt ge neg conv mn mx not beq len at' ln bd cut app allS isNil mks set o hP F ho
 have la := F.len_at hea
 cbv
 refine loop_ind hP (σ := List Ext × List Ext × Int × Int) (fun s => [(0, R ea .sh), (1, I s.2.2.1), (4, I 0), (5, I s.2.2.2)])
  (fun s => At s.2.2.2 s.2.1.length ∧ AtK s.2.2.1 k (cExtS s.2.1) ∧ l = s.2.1 ++ s.1) (fun s => s.1.length) (l, [], k, 0) rfl ⟨rfl, AtK.zero, rfl⟩ ?_
 rintro ⟨suf, pre, z0, i⟩ ⟨hi, a0, hl'⟩ ih
 simp only at hi a0 hl' ih
 cbv
 cases suf with
 | nil =>
  rw [F.lt_f hi la (by rw [mExtS_len, hl']; simp)]; cbv
  rw [← hr, show z0 = t by rw [a0.same, hT.same, hl']; simp]
 | cons x suf =>
  have hl3 : pre.length + 1 ≤ l.length := by rw [hl']; simp
  have hc : cExtS l = cExtS pre + (cExt x + cExtS suf) := by rw [hl']; simp [cExtS]
  have hcx : cExt x = 1 + x.body.length := rfl
  obtain ⟨z1, hz1⟩ := nm (z0 + 1)
  have a1 : AtK z1 k (cExtS pre + 1) := hz1 ▸ a0.one
  have s1 : add .i64 z0 1 = z1 := by rw [F.add, a0.inc hk (by omega), hz1]
  obtain ⟨z2, hz2⟩ := nm (z1 + (x.body.length : Int))
  have a2 : AtK z2 k (cExtS pre + 1 + x.body.length) := hz2 ▸ a1.plus
  have m2 : Lim z1 x.body.length := a1.lim hk (by omega)
  have n2 : 0 ≤ z2 := by have := m2.nn; omega
  have hmx : mExt x z0 = (⟨z0, (mI x.body z1)⟩ : Ext) := by simp only [mExt, hz1, hz2]
  have hzn : z0 + (cExt x : Int) = z2 := by rw [hcx, a2.same, a0.same]; omega
  have hm : mExtS l k = mExtS pre k ++ (⟨z0, (mI x.body z1)⟩ : Ext) :: mExtS suf z2 := by rw [hl', mExtS_app pre _ k z0 a0, ← hmx, ← hzn]; rfl
  have y0 : x.body.length ≤ 1099511627776 := w0 x (by rw [hl']; simp)
  obtain ⟨g1, hg1⟩ := nm (row fI (mI x.body z1))
  rw [F.lt_t hi la (by rw [mExtS_len, hl']; simp)]; cbv
  obtain ⟨ix, hix⟩ := nm (pre.length * 2)
  have p0 : at' 2 ea i = some (ix, [.int .i64 z0, .row () g1]) := by simp only [hix, hg1]; have h := F.get (f := fExt) (k := 2) (show At i (mExtS pre k).length by rw [mExtS_len]; exact hi) hea hm (fun _ => rfl) (by decide); rw [mExtS_len] at h; exact h
  rw [p0]; cbv
  rw [F.ne_f rfl]; cbv
  rw [s1]
  rw [p0]; cbv
  have c1 : o 125 [R g1 (.sp 0 0), I z1] = some ⟨[I z2], [], none⟩ := by rw [ho, hg1, hz2]; exact ok125 _ _ m2 y0 rfl
  rw [c1]; cbv
  rw [show lt z2 0 = false by rw [F.lt]; simp; omega]; cbv
  refine ih (suf, pre ++ [x], z2, add .i64 i 1) ⟨at_len (F.inc hi (by omega)) (by simp), a2.eq (by simp [cExtS, cExt] <;> omega), by simp [hl']⟩ (by simp)
theorem ok156 (x : Answer) (k : Int) (hk : Lim k (nAnswer x)) (w : x.Mid) {f0 : Fl} (q0 : inFl f0 = true) : fix Tb md 156 [sAnswer x.version (row fExt (wAnswer x k).exts) f0, I k] = some ⟨[I (k + (nAnswer x : Int))], [], none⟩ := by
 have hn : nAnswer x = cExtS x.exts := rfl
 unfold Answer.Mid at w
 have a0 : AtK k k 0 := AtK.zero
 obtain ⟨z1, hz1⟩ := nm (k + (cExtS x.exts : Int))
 have a1 : AtK z1 k (0 + cExtS x.exts) := hz1 ▸ a0.plus
 have m1 : Lim k (cExtS x.exts) := a0.lim hk (by omega)
 have n1 : 0 ≤ z1 := by have := m1.nn; omega
 rw [show k + (nAnswer x : Int) = z1 by rw [a1.same, hn]; simp]
 have x0 : (wAnswer x k).exts = mExtS x.exts k := by simp only [wAnswer, hz1]
 rw [x0]
 refine fix_fn (fn := ir156) tb_156 rfl rfl (by decide) rfl ?_; simp only [shutArgs, shutS, List.map_cons, List.map_nil, ir156, shut_in q0, List.head?_nil, reduceCtorEq, if_false, sExt, sHello, sAnswer, sEdit, sDeal, sBox, sDialed, sKnown]
 generalize hr : (⟨_, [], none⟩ : Ret) = r
 obtain ⟨g0, hg0⟩ := nm (row fExt (mExtS x.exts k))
 rw [← hg0]
 intro add sub mul arith eq ne lt le gt ge neg conv mn mx not beq len at' ln bd cut app allS isNil mks set o hP F ho
 have c1 : o 236 [R g0 (.sp 0 0), I k] = some ⟨[I z1], [], none⟩ := by rw [ho, hz1, hg0]; exact ok236 _ _ m1 (Nat.le_trans w.1 (by decide)) (fun y hy => Nat.le_trans ((w.2 y hy)) (by decide)) rfl
 cbv
 rw [c1]; cbv
 rw [show lt z1 0 = false by rw [F.lt]; simp; omega]; cbv
 exact congrArg some hr
theorem ok256 (l b : List Int) (hl : l.length ≤ 1073741824) (hb' : b.length ≤ 1073741824) {f0 f1 : Fl} (h0 : inFl f0 = true) (h1 : inFl f1 = true) : fix Tb md 256 [R (row fI l) f0, R (row fI b) f1] = some ⟨[R (row fI (sel (hasI b) idI l)) (.ow false)], [], none⟩ := by
 obtain ⟨et, het⟩ := nm (row fI (sel (hasI b) idI l))
 rw [← het]
 generalize hr : (⟨_, [], none⟩ : Ret) = r
 obtain ⟨ea, hea⟩ := nm (row fI l)
 obtain ⟨eb, heb⟩ := nm (row fI b)
 rw [← hea, ← heb]
 refine fix_fn2 (fn := ir256) tb_256 rfl rfl (by decide) rfl ?_; intro Q hQ; simp only [shutArgs, shutS, List.map_cons, List.map_nil, ir256, shut_in h0, shut_in h1, List.head?_nil, reduceCtorEq, if_false, sExt, sHello, sAnswer, sEdit, sDeal, sBox, sDialed, sKnown]
 intro add sub mul arith eq ne lt le gt ge neg conv mn mx not beq len at' ln bd cut app allS isNil mks set o hP F ho
 have la := F.len_at hea
 cbv
 refine loop_ind2 hP (σ := List Int × List Int × List (List V) × Int) (fun s => [(0, R ea .sh), (1, R eb .sh), (4, R [] .nl), (5, R s.2.2.1 (.ow false)), (6, I s.2.2.2)]) (fun s => At s.2.2.2 s.2.1.length ∧ l = s.2.1 ++ s.1 ∧ s.2.2.1 = row fI (sel (hasI b) idI s.2.1)) (fun s => s.1.length) (l, [], [], 0) rfl ⟨rfl, rfl, rfl⟩ ?_
 intro c1 Q1 hc1 hQ1
 rintro ⟨suf, pre, eo, i⟩ ⟨hi, hl', hb⟩ ih
 simp only at hi hl' hb ih
 cbv
 cases suf with
 | nil =>
  rw [F.lt_f hi la (by simp [hl'])]; cbv
  rw [hQ1]; cbv
  rw [hQ]; cbv
  rw [← hr, het, hb, hl', List.append_nil]
 | cons x suf =>
  obtain ⟨ix, hix⟩ := nm (pre.length * 1)
  have hpre : pre.length ≤ 1073741824 := by rw [hl'] at hl; simp at hl; omega
  have hs : (sel (hasI b) idI pre).length ≤ pre.length := sel_len
  have hi' : At (add .i64 i 1) (pre ++ [x]).length := at_len (F.inc hi (by omega)) (by simp)
  have hl2 : l = (pre ++ [x]) ++ suf := by rw [hl']; simp
  have hmem : x ∈ l := by rw [hl']; simp
  have p0 : at' 1 ea i = some (ix, [.int .i64 x]) := by rw [hix]; exact F.get hi hea hl' (fun _ => rfl) (by decide)
  obtain ⟨v, hv⟩ := nm (hasI b x)
  have c2 : o 285 [R eb (.sp 0 0), I x] = some ⟨[B v], [], none⟩ := by rw [ho, hv, heb]; exact ok285 _ _ (by omega) rfl
  rw [F.lt_t hi la (by simp [hl'])]; cbv
  rw [p0]; cbv
  rw [c2]; cbv
  refine both (fun d => ?_) (fun d => ?_) <;> rw [d] <;> cbv
  ·rw [p0]; cbv
   rw [show allS [[.int .i64 x]] = true by rw [F.allS]; rfl]; cbv
   obtain ⟨eo', heo'⟩ := nm (row fI (sel (hasI b) idI pre ++ [idI x]))
   rw [show app 1 eo [[.int .i64 x]] = some eo' by rw [heo']; exact F.push hb (fun _ => rfl) rfl (by omega)]; cbv
   refine ih (suf, pre ++ [x], eo', add .i64 i 1) ⟨hi', hl2, by simp only; rw [heo', sel_t (by rw [← hv, d])]⟩ (by simp)
  ·refine ih (suf, pre ++ [x], eo, add .i64 i 1) ⟨hi', hl2, by simp only; rw [hb, sel_f (by rw [← hv, d])]⟩ (by simp)
def comm (a b : List Int) : List Int := sel (hasI b) idI a
def bestC (a b : List Int) : Int := if areVer a && areVer b then (comm a b).getLastD 0 else 0
theorem ver_asc : ∀ (suf pre : List Int), verGo pre suf = true → (∀ y, pre.getLast? = some y → ∀ x ∈ suf, y < x) ∧ suf.Pairwise (· < ·) ∧ ∀ x ∈ suf, 1 ≤ x ∧ x ≤ 9
 | [], _, _ => ⟨by simp, .nil, by simp⟩
 | x :: suf, pre, h => by
  unfold verGo at h
  simp only [Bool.and_eq_true] at h
  obtain ⟨⟨h1, h2⟩, h3⟩ := h
  obtain ⟨i1, i2, i3⟩ := ver_asc suf _ h3
  have i1' := i1 x (by simp)
  have hx : 1 ≤ x ∧ x ≤ 9 := by unfold inR at h1; simpa using h1
  refine ⟨?_, List.pairwise_cons.2 ⟨i1', i2⟩, ?_⟩
  ·intro y hy z hz
   rw [hy] at h2
   simp only [Bool.not_eq_true', decide_eq_false_iff_not] at h2
   rcases List.mem_cons.1 hz with rfl | hz
   ·omega
   ·have := i1' z hz; omega
  ·intro z hz
   rcases List.mem_cons.1 hz with rfl | hz
   ·exact hx
   ·exact i3 z hz
theorem areVer_asc {l : List Int} (h : areVer l = true) : l.Pairwise (· < ·) ∧ ∀ x ∈ l, 1 ≤ x ∧ x ≤ 9 := by
 unfold areVer at h
 simp only [Bool.and_eq_true] at h
 exact (ver_asc l [] h.1).2
def mxI (x y : Int) : Int := if y > x then y else x
theorem mx_last : ∀ (l : List Int) (d : Int), l.Pairwise (· < ·) → (∀ x ∈ l, d < x) → l.foldl mxI d = l.getLastD d
 | [], _, _, _ => rfl
 | x :: l, d, h1, h2 => by
  rw [List.foldl_cons, show mxI d x = x by unfold mxI; rw [if_pos (h2 x (by simp))]]
  rw [mx_last l x (List.pairwise_cons.1 h1).2 (List.pairwise_cons.1 h1).1]
  cases l <;> rfl
theorem comm_asc {a b : List Int} (h : areVer a = true) : (comm a b).Pairwise (· < ·) ∧ ∀ x ∈ comm a b, 1 ≤ x ∧ x ≤ 9 := by
 obtain ⟨h1, h2⟩ := areVer_asc h
 unfold comm
 rw [sel_idI]
 exact ⟨h1.filter _, fun x hx => h2 x (List.mem_filter.1 hx).1⟩
theorem comm_max {a b : List Int} (h : areVer a = true) : (comm a b).foldl mxI 0 = (comm a b).getLastD 0 := by
 obtain ⟨h1, h2⟩ := comm_asc (b := b) h
 exact mx_last _ _ h1 fun x hx => by have := h2 x hx; omega
theorem last_split {l : List Int} (h : l ≠ []) : l = l.dropLast ++ [l.getLastD 0] := by
 rw [List.getLastD_eq_getLast?, List.getLast?_eq_some_getLast h]
 exact (List.dropLast_concat_getLast h).symm
theorem ok112 (a b : List Int) (ha : a.length ≤ 1073741824) (hb : b.length ≤ 1073741824) {f0 f1 : Fl} (q0 : inFl f0 = true) (q1 : inFl f1 = true) : fix Tb md 112 [R (row fI a) f0, R (row fI b) f1] = some ⟨[I (bestC a b)], [], none⟩ := by
 obtain ⟨u, hu⟩ := nm (areVer a)
 obtain ⟨v, hv⟩ := nm (areVer b)
 obtain ⟨l, hl⟩ := nm (comm a b)
 obtain ⟨T, hT⟩ := nm (bestC a b)
 rw [← hT]
 have hT' : T = if u && v then l.getLastD 0 else 0 := by rw [hT, hu, hv, hl]; rfl
 clear hT
 have hll : l.length ≤ 1073741824 := by rw [hl]; exact Nat.le_trans sel_len ha
 obtain ⟨pre, hpre⟩ := nm (l.dropLast)
 obtain ⟨x, hx⟩ := nm (l.getLastD 0)
 have hlx : l ≠ [] → l = pre ++ x :: [] := fun h => by rw [hpre, hx]; exact last_split h
 generalize hr : (⟨_, [], none⟩ : Ret) = r
 obtain ⟨ea, hea⟩ := nm (row fI a)
 obtain ⟨eb, heb⟩ := nm (row fI b)
 rw [← hea, ← heb]
 obtain ⟨el, hel⟩ := nm (row fI l)
 obtain ⟨ix, hix⟩ := nm (pre.length * 1)
 refine fix_fn2 (fn := ir112) tb_112 rfl rfl (by decide) rfl ?_; intro Q hQ; simp only [shutArgs, shutS, List.map_cons, List.map_nil, ir112, shut_in q0, shut_in q1, List.head?_nil, reduceCtorEq, if_false, sExt, sHello, sAnswer, sEdit, sDeal, sBox, sDialed, sKnown]
 intro add sub mul arith eq ne lt le gt ge neg conv mn mx not beq len at' ln bd cut app allS isNil mks set o hP F ho
 have ll := F.len_at hel
 have c1 : o 256 [R ea (.sp 0 0), R eb (.sp 1 0)] = some ⟨[R el (.ow false)], [], none⟩ := by rw [ho, hel, hl, hea, heb]; exact ok256 _ _ ha hb rfl rfl
 have c2 : o 257 [R ea (.sp 0 0)] = some ⟨[B u], [], none⟩ := by rw [ho, hu, hea]; exact ok257 _ (by omega) rfl
 have c3 : o 257 [R eb (.sp 0 0)] = some ⟨[B v], [], none⟩ := by rw [ho, hv, heb]; exact ok257 _ (by omega) rfl
 have g1 : eq (len el) 0 = decide (l.length = 0) := F.eq_n ll (k := 0) (m := 0) rfl
 cbv
 rw [c1]; cbv
 rw [c2]; cbv
 refine both (fun d1 => ?_) (fun d1 => ?_) <;> rw [d1] <;> cbv
 ·rw [hQ]; cbv
  rw [← hr, hT', F.not_t d1]; rfl
 rw [c3]; cbv
 refine both (fun d2 => ?_) (fun d2 => ?_) <;> rw [d2] <;> cbv
 ·rw [hQ]; cbv
  rw [← hr, hT', F.not_f d1, F.not_t d2]; rfl
 refine both (fun d3 => ?_) (fun d3 => ?_) <;> rw [d3] <;> cbv
 ·rw [hQ]; cbv
  rw [g1] at d3
  have hn : l = [] := List.length_eq_zero_iff.1 (by simpa using d3)
  rw [← hr, hT', F.not_f d1, F.not_f d2, hn]; rfl
 rw [g1] at d3
 have hn : l ≠ [] := fun h => by rw [h] at d3; simp at d3
 have hl2 := hlx hn
 have hs : At (sub .i64 (len el) 1) pre.length := by
  unfold At at ll ⊢
  rw [F.sub, ll, wrap64 (by omega) (by omega), hl2]; simp
 rw [show at' 1 el (sub .i64 (len el) 1) = some (ix, [.int .i64 x]) by rw [hix]; exact F.get hs hel hl2 (fun _ => rfl) (by decide)]; cbv
 rw [hQ]; cbv
 rw [← hr, hT', F.not_f d1, F.not_f d2, ← hx]; rfl
def resv (t : Int) : Bool := inR t 0 255 && decide (Int.tmod t 16 = 10)
theorem ok301 (t : Int) : fix Tb md 301 [I t] = some ⟨[B (resv t)], [], none⟩ := by
 obtain ⟨a, ha⟩ := nm (inR t 0 255)
 obtain ⟨n, hn⟩ := nm (Int.tmod t 16)
 obtain ⟨b, hb⟩ := nm (decide (n = 10))
 rw [show resv t = (a && b) by rw [ha, hb, hn]; rfl]
 generalize hr : (⟨_, [], none⟩ : Ret) = r
 refine fix_fn2 (fn := ir301) tb_301 rfl rfl (by decide) rfl ?_; intro Q hQ; simp only [shutArgs, shutS, List.map_cons, List.map_nil, ir301, List.head?_nil, reduceCtorEq, if_false, sExt, sHello, sAnswer, sEdit, sDeal, sBox, sDialed, sKnown]
 intro add sub mul arith eq ne lt le gt ge neg conv mn mx not beq len at' ln bd cut app allS isNil mks set o hP F ho
 have c1 : o 230 [I t, I 0, I 255] = some ⟨[B a], [], none⟩ := by rw [ho, ha]; exact ok230 ..
 have g1 : arith .rem .i64 t 16 = some (.int .i64 n) := by rw [F.arith, hn]; rfl
 have g2 : eq n 10 = b := by rw [F.eq, hb]
 cbv
 rw [c1]; cbv
 refine both (fun d => ?_) (fun d => ?_) <;> rw [d] <;> cbv
 ·rw [g1]; cbv
  rw [hQ]; cbv
  rw [g2, ← hr, d]; rfl
 ·rw [hQ]; cbv
  rw [← hr, d]; rfl
def notRes (e : Ext) : Bool := !resv e.tag
theorem ok306 (l : List Ext) (hl : l.length ≤ 1073741824) (w : ∀ y ∈ l, y.body.length ≤ 1099511627776) {f0 : Fl} (h0 : inFl f0 = true) : fix Tb md 306 [R (row fExt l) f0] = some ⟨[R (row fExt (sel notRes idE l)) (.ow false)], [], none⟩ := by
 obtain ⟨et, het⟩ := nm (row fExt (sel notRes idE l))
 rw [← het]
 generalize hr : (⟨_, [], none⟩ : Ret) = r
 obtain ⟨ea, hea⟩ := nm (row fExt l)
 rw [← hea]
 refine fix_fn2 (fn := ir306) tb_306 rfl rfl (by decide) rfl ?_; intro Q hQ; simp only [shutArgs, shutS, List.map_cons, List.map_nil, ir306, shut_in h0, List.head?_nil, reduceCtorEq, if_false, sExt, sHello, sAnswer, sEdit, sDeal, sBox, sDialed, sKnown]
 intro add sub mul arith eq ne lt le gt ge neg conv mn mx not beq len at' ln bd cut app allS isNil mks set o hP F ho
 have la := F.len_at hea
 cbv
 refine loop_ind2 hP (σ := List Ext × List Ext × List (List V) × Int) (fun s => [(0, R ea .sh), (2, R [] .nl), (3, R s.2.2.1 (.ow false)), (4, I s.2.2.2)]) (fun s => At s.2.2.2 s.2.1.length ∧ l = s.2.1 ++ s.1 ∧ s.2.2.1 = row fExt (sel notRes idE s.2.1)) (fun s => s.1.length) (l, [], [], 0) rfl ⟨rfl, rfl, rfl⟩ ?_
 intro c1 Q1 hc1 hQ1
 rintro ⟨suf, pre, eo, i⟩ ⟨hi, hl', hb⟩ ih
 simp only at hi hl' hb ih
 cbv
 cases suf with
 | nil =>
  rw [F.lt_f hi la (by simp [hl'])]; cbv
  rw [hQ1]; cbv
  rw [hQ]; cbv
  rw [← hr, het, hb, hl', List.append_nil]
 | cons x suf =>
  obtain ⟨ix, hix⟩ := nm (pre.length * 2)
  have hpre : pre.length ≤ 1073741824 := by rw [hl'] at hl; simp at hl; omega
  have hs : (sel notRes idE pre).length ≤ pre.length := sel_len
  have hi' : At (add .i64 i 1) (pre ++ [x]).length := at_len (F.inc hi (by omega)) (by simp)
  have hl2 : l = (pre ++ [x]) ++ suf := by rw [hl']; simp
  have hmem : x ∈ l := by rw [hl']; simp
  obtain ⟨e1, he1⟩ := nm (row fI x.body)
  have hx := w x hmem
  have p0 : at' 2 ea i = some (ix, [.int .i64 x.tag, .row () e1]) := by rw [hix, he1]; exact F.get hi hea hl' (fun _ => rfl) (by decide)
  obtain ⟨v, hv⟩ := nm (resv x.tag)
  have hP : notRes x = !v := by rw [hv]; rfl
  have c2 : o 301 [I x.tag] = some ⟨[B v], [], none⟩ := by rw [ho, hv]; exact ok301 ..
  rw [F.lt_t hi la (by simp [hl'])]; cbv
  rw [p0]; cbv
  rw [c2]; cbv
  refine both (fun d => ?_) (fun d => ?_) <;> rw [d] <;> cbv
  ·rw [p0]; cbv
   rw [p0]; cbv
   rw [show allS e1 = true from F.scal he1 (fun _ => rfl)]; cbv
   rw [F.app_nil he1 (fun _ => rfl) hx]; cbv
   rw [show allS [[.int .i64 x.tag, .row () e1]] = false by rw [F.allS]; rfl]; cbv
   obtain ⟨eo', heo'⟩ := nm (row fExt (sel notRes idE pre ++ [idE x]))
   rw [show app 2 eo [[.int .i64 x.tag, .row () e1]] = some eo' by rw [heo', he1]; exact F.push hb (fun _ => rfl) rfl (by omega)]; cbv
   refine ih (suf, pre ++ [x], eo', add .i64 i 1) ⟨hi', hl2, by simp only; rw [heo', sel_t (by rw [hP, F.not_t d]; rfl)]⟩ (by simp)
  ·refine ih (suf, pre ++ [x], eo, add .i64 i 1) ⟨hi', hl2, by simp only; rw [hb, sel_f (by rw [hP, F.not_f d]; rfl)]⟩ (by simp)
def caOk (vs : List Int) (h : Hello) : Bool := isHel h && !decide (bestC vs h.versions = 0)
def caX (tg : List Int) (l : List Ext) : List Ext := sel notRes idE (sel (tagIn tg) idE l)
def caV (vs tg : List Int) (h : Hello) : Answer := if caOk vs h then ⟨bestC vs h.versions, caX tg h.exts⟩ else ⟨0, []⟩
theorem caV_mid {vs tg : List Int} {h : Hello} (m : h.Mid) : (caV vs tg h).Mid := by
 unfold caV
 split
 ·unfold Hello.Mid at m
  refine ⟨Nat.le_trans sel_len (Nat.le_trans sel_len m.2.1), fun y hy => m.2.2 y ?_⟩
  simp only [caX, sel_idE] at hy
  exact (List.mem_filter.1 (List.mem_filter.1 hy).1).1
 ·exact ⟨by simp, by simp⟩
theorem ok168r (vs tg : List Int) (h : Hello) (hv : vs.length ≤ 1073741824) (ht : tg.length ≤ 1073741824) (mh : h.Mid) {f0 f1 f2 f3 : Fl} (q0 : inFl f0 = true) (q1 : inFl f1 = true) (q2 : inFl f2 = true) (q3 : inFl f3 = true) (r : Ret)
  (rA' : caOk vs h = true → (⟨[sAnswer (caV vs tg h).version (row fExt (caV vs tg h).exts) (.ow false), B true], [], none⟩ : Ret) = r) (rC' : caOk vs h = false → (⟨[sAnswer 0 [] .nl, B false], [], none⟩ : Ret) = r) :
  fix Tb md 168 [R (row fI vs) f0, R (row fI tg) f1, sHello (row fI h.versions) (row fExt h.exts) f2 f3] = some r := by
 have mh' := mh
 unfold Hello.Mid at mh'
 have hvl := mh'.1
 have hxl := mh'.2.1
 have wh : ∀ y ∈ h.exts, y.body.length ≤ 1099511627776 := fun y hy => Nat.le_trans (show y.body.length ≤ 1073741824 from mh'.2.2 y hy) (by decide)
 obtain ⟨u, hu⟩ := nm (isHel h)
 obtain ⟨n, hn⟩ := nm (bestC vs h.versions)
 obtain ⟨K, hK⟩ := nm (sel (tagIn tg) idE h.exts)
 obtain ⟨Z, hZ⟩ := nm (sel notRes idE K)
 have hKl : K.length ≤ 1073741824 := by rw [hK]; exact Nat.le_trans sel_len hxl
 have wK : ∀ y ∈ K, y.body.length ≤ 1099511627776 := fun y hy => wh y (by rw [hK, sel_idE] at hy; exact (List.mem_filter.1 hy).1)
 have hok : caOk vs h = (u && !decide (n = 0)) := by rw [hu, hn]; rfl
 have rA : u = true → decide (n = 0) = false → (⟨[sAnswer n (row fExt Z) (.ow false), B true], [], none⟩ : Ret) = r := fun q1 q2 => by
  have hk : caOk vs h = true := by rw [hok, q1, q2]; rfl
  rw [← rA' hk, show caV vs tg h = ⟨n, Z⟩ by rw [caV, hk, if_pos rfl, hn, hZ, hK]; rfl]
 have rC : u = false ∨ decide (n = 0) = true → (⟨[sAnswer 0 [] .nl, B false], [], none⟩ : Ret) = r := fun q => rC' (by rcases q with q | q <;> rw [hok, q] <;> simp)
 clear rA' rC' hok
 obtain ⟨ev, hev⟩ := nm (row fI vs)
 obtain ⟨et, het⟩ := nm (row fI tg)
 obtain ⟨dv, hdv⟩ := nm (row fI h.versions)
 obtain ⟨dx, hdx⟩ := nm (row fExt h.exts)
 rw [← hev, ← het, ← hdv, ← hdx]
 obtain ⟨ek, hek⟩ := nm (row fExt K)
 obtain ⟨ez, hez⟩ := nm (row fExt Z)
 rw [← hez] at rA
 refine fix_fn2 (fn := ir168) tb_168 rfl rfl (by decide) rfl ?_; intro Q hQ; simp only [shutArgs, shutS, List.map_cons, List.map_nil, ir168, shut_in q0, shut_in q1, shut_in q2, shut_in q3, List.head?_nil, reduceCtorEq, if_false, sExt, sHello, sAnswer, sEdit, sDeal, sBox, sDialed, sKnown]
 intro add sub mul arith eq ne lt le gt ge neg conv mn mx not beq len at' ln bd cut app allS isNil mks set o hP F ho
 have c1 : o 112 [R ev (.sp 0 0), R dv (.sp 1 0)] = some ⟨[I n], [], none⟩ := by rw [ho, hn, hev, hdv]; exact ok112 _ _ hv hvl rfl rfl
 have c2 : o 142 [sHello dv dx (.sp 0 0) (.sp 0 1)] = some ⟨[B u], [], none⟩ := by rw [ho, hu, hdv, hdx]; exact ok142 _ (by omega) (by omega) wh rfl rfl
 have c3 : o 307 [R dx (.sp 0 0), R et (.sp 1 0)] = some ⟨[R ek (.ow false)], [], none⟩ := by rw [ho, hek, hK, hdx, het]; exact ok307 _ _ hxl ht wh rfl rfl
 have c4 : o 306 [R ek (.sp 0 0)] = some ⟨[R ez (.ow false)], [], none⟩ := by rw [ho, hez, hZ, hek]; exact ok306 _ hKl wK rfl
 have g1 : eq n 0 = decide (n = 0) := F.eq ..
 cbv
 rw [c1]; cbv
 rw [c2]; cbv
 refine both (fun d1 => ?_) (fun d1 => ?_) <;> rw [d1] <;> cbv
 ·rw [hQ]; cbv
  exact congrArg some (rC (.inl (F.not_t d1)))
 refine both (fun d2 => ?_) (fun d2 => ?_) <;> rw [d2] <;> cbv
 ·rw [hQ]; cbv
  exact congrArg some (rC (.inr (by rw [← g1, d2])))
 rw [c3]; cbv
 rw [c4]; cbv
 rw [hQ]; cbv
 exact congrArg some (rA (F.not_f d1) (by rw [← g1, d2]))
theorem ok168a (vs tg : List Int) (h : Hello) (hv : vs.length ≤ 1073741824) (ht : tg.length ≤ 1073741824) (mh : h.Mid) {f0 f1 f2 f3 : Fl} (q0 : inFl f0 = true) (q1 : inFl f1 = true) (q2 : inFl f2 = true) (q3 : inFl f3 = true) (q : caOk vs h = true) :
  fix Tb md 168 [R (row fI vs) f0, R (row fI tg) f1, sHello (row fI h.versions) (row fExt h.exts) f2 f3] = some ⟨[sAnswer (caV vs tg h).version (row fExt (caV vs tg h).exts) (.ow false), B true], [], none⟩ :=
 ok168r vs tg h hv ht mh q0 q1 q2 q3 _ (fun _ => rfl) (fun e => by rw [q] at e; cases e)
theorem ok168b (vs tg : List Int) (h : Hello) (hv : vs.length ≤ 1073741824) (ht : tg.length ≤ 1073741824) (mh : h.Mid) {f0 f1 f2 f3 : Fl} (q0 : inFl f0 = true) (q1 : inFl f1 = true) (q2 : inFl f2 = true) (q3 : inFl f3 = true) (q : caOk vs h = false) :
  fix Tb md 168 [R (row fI vs) f0, R (row fI tg) f1, sHello (row fI h.versions) (row fExt h.exts) f2 f3] = some ⟨[sAnswer 0 [] .nl, B false], [], none⟩ :=
 ok168r vs tg h hv ht mh q0 q1 q2 q3 _ (fun e => by rw [q] at e; cases e) (fun _ => rfl)
theorem ok168 (vs tg : List Int) (h : Hello) (hv : vs.length ≤ 1073741824) (ht : tg.length ≤ 1073741824) (mh : h.Mid) {f0 f1 f2 f3 : Fl} (q0 : inFl f0 = true) (q1 : inFl f1 = true) (q2 : inFl f2 = true) (q3 : inFl f3 = true) :
  fix Tb md 168 [R (row fI vs) f0, R (row fI tg) f1, sHello (row fI h.versions) (row fExt h.exts) f2 f3] = some ⟨[sAnswer (caV vs tg h).version (row fExt (caV vs tg h).exts) (.ow false), B (caOk vs h)], [], none⟩ ∨
  ((caV vs tg h).exts = [] ∧ fix Tb md 168 [R (row fI vs) f0, R (row fI tg) f1, sHello (row fI h.versions) (row fExt h.exts) f2 f3] = some ⟨[sAnswer (caV vs tg h).version [] .nl, B (caOk vs h)], [], none⟩) := by
 cases q : caOk vs h with
 | true => exact .inl (ok168a vs tg h hv ht mh q0 q1 q2 q3 q)
 | false =>
  rw [show caV vs tg h = ⟨0, []⟩ by rw [caV, q]; rfl]
  exact .inr ⟨rfl, ok168b vs tg h hv ht mh q0 q1 q2 q3 q⟩
theorem ok180 (l b : List Int) (hl : l.length ≤ 1073741824) (hb' : b.length ≤ 1073741824) {f0 f1 : Fl} (h0 : inFl f0 = true) (h1 : inFl f1 = true) : fix Tb md 180 [R (row fI l) f0, R (row fI b) f1] = some ⟨[R (row fI (sel (hasI b) idI l)) (.ow false)], [], none⟩ := by
 obtain ⟨et, het⟩ := nm (row fI (sel (hasI b) idI l))
 rw [← het]
 generalize hr : (⟨_, [], none⟩ : Ret) = r
 obtain ⟨ea, hea⟩ := nm (row fI l)
 obtain ⟨eb, heb⟩ := nm (row fI b)
 rw [← hea, ← heb]
 refine fix_fn2 (fn := ir180) tb_180 rfl rfl (by decide) rfl ?_; intro Q hQ; simp only [shutArgs, shutS, List.map_cons, List.map_nil, ir180, shut_in h0, shut_in h1, List.head?_nil, reduceCtorEq, if_false, sExt, sHello, sAnswer, sEdit, sDeal, sBox, sDialed, sKnown]
 intro add sub mul arith eq ne lt le gt ge neg conv mn mx not beq len at' ln bd cut app allS isNil mks set o hP F ho
 have la := F.len_at hea
 cbv
 refine loop_ind2 hP (σ := List Int × List Int × List (List V) × Int × Option (Int)) (fun s => match s.2.2.2.2 with | none => [(0, R ea .sh), (1, R eb .sh), (4, R [] .nl), (5, R s.2.2.1 (.ow false)), (9, R ea .sh), (10, I (len ea)), (11, I s.2.2.2.1)] | some j => [(0, R ea .sh), (1, R eb .sh), (4, R [] .nl), (5, R s.2.2.1 (.ow false)), (7, I j), (9, R ea .sh), (10, I (len ea)), (11, I s.2.2.2.1)]) (fun s => At s.2.2.2.1 s.2.1.length ∧ l = s.2.1 ++ s.1 ∧ s.2.2.1 = row fI (sel (hasI b) idI s.2.1)) (fun s => s.1.length) (l, [], [], 0, none) rfl ⟨rfl, rfl, rfl⟩ ?_
 intro c1 Q1 hc1 hQ1
 rintro ⟨suf, pre, eo, i, j⟩ ⟨hi, hl', hb⟩ ih
 simp only at hi hl' hb ih
 rcases j with _ | _
 all_goals
  cbv
  cases suf with
  | nil =>
   rw [F.lt_f hi la (by simp [hl'])]; cbv
   rw [hQ1]; cbv
   rw [hQ]; cbv
   rw [← hr, het, hb, hl', List.append_nil]
  | cons x suf =>
   obtain ⟨ix, hix⟩ := nm (pre.length * 1)
   have hpre : pre.length ≤ 1073741824 := by rw [hl'] at hl; simp at hl; omega
   have hs : (sel (hasI b) idI pre).length ≤ pre.length := sel_len
   have hi' : At (add .i64 i 1) (pre ++ [x]).length := at_len (F.inc hi (by omega)) (by simp)
   have hl2 : l = (pre ++ [x]) ++ suf := by rw [hl']; simp
   have hmem : x ∈ l := by rw [hl']; simp
   have p0 : at' 1 ea i = some (ix, [.int .i64 x]) := by rw [hix]; exact F.get hi hea hl' (fun _ => rfl) (by decide)
   obtain ⟨v, hv⟩ := nm (hasI b x)
   have c2 : o 302 [R eb (.sp 0 0), I x] = some ⟨[B v], [], none⟩ := by rw [ho, hv, heb]; exact ok302 _ _ (by omega) rfl
   rw [F.lt_t hi la (by simp [hl'])]; cbv
   rw [p0]; cbv
   rw [c2]; cbv
   refine both (fun d => ?_) (fun d => ?_) <;> rw [d] <;> cbv
   ·rw [show allS [[.int .i64 x]] = true by rw [F.allS]; rfl]; cbv
    obtain ⟨eo', heo'⟩ := nm (row fI (sel (hasI b) idI pre ++ [idI x]))
    rw [show app 1 eo [[.int .i64 x]] = some eo' by rw [heo']; exact F.push hb (fun _ => rfl) rfl (by omega)]; cbv
    refine ih (suf, pre ++ [x], eo', add .i64 i 1, some x) ⟨hi', hl2, by simp only; rw [heo', sel_t (by rw [← hv, d])]⟩ (by simp)
   ·refine ih (suf, pre ++ [x], eo, add .i64 i 1, some x) ⟨hi', hl2, by simp only; rw [hb, sel_f (by rw [← hv, d])]⟩ (by simp)
theorem ok111 (a b : List Int) (ha : a.length ≤ 1073741824) (hb : b.length ≤ 1073741824) {f0 f1 : Fl} (q0 : inFl f0 = true) (q1 : inFl f1 = true) : fix Tb md 111 [R (row fI a) f0, R (row fI b) f1] = some ⟨[I (bestC a b)], [], none⟩ := by
 obtain ⟨u, hu⟩ := nm (areVer a)
 obtain ⟨v, hv⟩ := nm (areVer b)
 obtain ⟨l, hl⟩ := nm (comm a b)
 obtain ⟨T, hT⟩ := nm (bestC a b)
 rw [← hT]
 have hT' : T = if u && v then l.foldl mxI 0 else 0 := by
  rw [hT, hu, hv, hl]
  cases hva : areVer a with
  | false => unfold bestC; rw [hva]; rfl
  | true => rw [comm_max hva]; unfold bestC; rw [hva]
 clear hT
 have hll : l.length ≤ 1073741824 := by rw [hl]; exact Nat.le_trans sel_len ha
 generalize hr : (⟨_, [], none⟩ : Ret) = r
 obtain ⟨ea, hea⟩ := nm (row fI a)
 obtain ⟨eb, heb⟩ := nm (row fI b)
 rw [← hea, ← heb]
 obtain ⟨el, hel⟩ := nm (row fI l)
 refine fix_fn2 (fn := ir111) tb_111 rfl rfl (by decide) rfl ?_; intro Q hQ; simp only [shutArgs, shutS, List.map_cons, List.map_nil, ir111, shut_in q0, shut_in q1, List.head?_nil, reduceCtorEq, if_false, sExt, sHello, sAnswer, sEdit, sDeal, sBox, sDialed, sKnown]
 intro add sub mul arith eq ne lt le gt ge neg conv mn mx not beq len at' ln bd cut app allS isNil mks set o hP F ho
 have ll := F.len_at hel
 have c1 : o 180 [R ea (.sp 0 0), R eb (.sp 1 0)] = some ⟨[R el (.ow false)], [], none⟩ := by rw [ho, hel, hl, hea, heb]; exact ok180 _ _ ha hb rfl rfl
 have c2 : o 255 [R ea (.sp 0 0)] = some ⟨[B u], [], none⟩ := by rw [ho, hu, hea]; exact ok255 _ (by omega) rfl
 have c3 : o 255 [R eb (.sp 0 0)] = some ⟨[B v], [], none⟩ := by rw [ho, hv, heb]; exact ok255 _ (by omega) rfl
 cbv
 rw [c2]; cbv
 refine both (fun d1 => ?_) (fun d1 => ?_) <;> rw [d1] <;> cbv
 ·rw [hQ]; cbv
  rw [← hr, hT', F.not_t d1]; rfl
 rw [c3]; cbv
 refine both (fun d2 => ?_) (fun d2 => ?_) <;> rw [d2] <;> cbv
 ·rw [hQ]; cbv
  rw [← hr, hT', F.not_f d1, F.not_t d2]; rfl
 rw [c1]; cbv
 have hT2 : T = l.foldl mxI 0 := by rw [hT', F.not_f d1, F.not_f d2]; rfl
 refine loop_ind2 hP (σ := List Int × List Int × Int × Int × Option Int) (fun s => match s.2.2.2.2 with
  | none => [(0, R ea .sh), (1, R eb .sh), (4, I 0), (5, I s.2.2.1), (18, R el (.ow false)), (19, I (len el)), (20, I s.2.2.2.1)]
  | some j => [(0, R ea .sh), (1, R eb .sh), (4, I 0), (5, I s.2.2.1), (7, I j), (18, R el (.ow false)), (19, I (len el)), (20, I s.2.2.2.1)]) (fun s => At s.2.2.2.1 s.2.1.length ∧ l = s.2.1 ++ s.1 ∧ s.1.foldl mxI s.2.2.1 = T) (fun s => s.1.length) (l, [], 0, 0, none) rfl ⟨rfl, rfl, hT2.symm⟩ ?_
 intro c9 Q1 hc9 hQ1
 rintro ⟨suf, pre, d, i, j⟩ ⟨hi, hl', hb⟩ ih
 simp only at hi hl' hb ih
 rcases j with _ | _
 all_goals
  cbv
  cases suf with
  | nil =>
   rw [F.lt_f hi ll (by simp [hl'])]; cbv
   rw [hQ1]; cbv
   rw [hQ]; cbv
   rw [← hr, ← hb]; rfl
  | cons x suf =>
   have hpl : pre.length ≤ 1073741824 := by rw [hl'] at hll; simp at hll; omega
   rw [List.foldl_cons] at hb
   obtain ⟨ix, hix⟩ := nm (pre.length * 1)
   have p0 : at' 1 el i = some (ix, [.int .i64 x]) := by rw [hix]; exact F.get hi hel hl' (fun _ => rfl) (by decide)
   obtain ⟨d', hd'⟩ := nm (mxI d x)
   have g2 : mx d x = d' := by rw [F.mx, hd']; rfl
   rw [F.lt_t hi ll (by simp [hl'])]; cbv
   rw [p0]; cbv
   rw [g2]; cbv
   rw [← hd'] at hb
   refine ih (suf, pre ++ [x], d', add .i64 i 1, some x) ⟨at_len (F.inc hi (by omega)) (by simp), by simp [hl'], hb⟩ (by simp)
theorem ok337 (t : Int) : fix Tb md 337 [I t] = some ⟨[B (resv t)], [], none⟩ := by
 obtain ⟨a, ha⟩ := nm (inR t 0 255)
 obtain ⟨n, hn⟩ := nm (Int.tmod t 16)
 obtain ⟨b, hb⟩ := nm (decide (n = 10))
 rw [show resv t = (a && b) by rw [ha, hb, hn]; rfl]
 generalize hr : (⟨_, [], none⟩ : Ret) = r
 refine fix_fn2 (fn := ir337) tb_337 rfl rfl (by decide) rfl ?_; intro Q hQ; simp only [shutArgs, shutS, List.map_cons, List.map_nil, ir337, List.head?_nil, reduceCtorEq, if_false, sExt, sHello, sAnswer, sEdit, sDeal, sBox, sDialed, sKnown]
 intro add sub mul arith eq ne lt le gt ge neg conv mn mx not beq len at' ln bd cut app allS isNil mks set o hP F ho
 have c1 : o 232 [I t, I 0, I 255] = some ⟨[B a], [], none⟩ := by rw [ho, ha]; exact ok232 ..
 have g1 : arith .rem .i64 t 16 = some (.int .i64 n) := by rw [F.arith, hn]; rfl
 have g2 : eq n 10 = b := by rw [F.eq, hb]
 cbv
 rw [c1]; cbv
 refine both (fun d => ?_) (fun d => ?_) <;> rw [d] <;> cbv
 ·rw [g1]; cbv
  rw [hQ]; cbv
  rw [g2, ← hr, d]; rfl
 ·rw [hQ]; cbv
  rw [← hr, d]; rfl
theorem ok356 (n : Int) : fix Tb md 356 [I n] = some ⟨[B (!resv n)], [], none⟩ := by
 obtain ⟨v, hv⟩ := nm (resv n)
 rw [← hv]
 generalize hr : (⟨_, [], none⟩ : Ret) = r
 refine fix_fn2 (fn := ir356) tb_356 rfl rfl (by decide) rfl ?_; intro Q hQ; simp only [shutArgs, shutS, List.map_cons, List.map_nil, ir356, List.head?_nil, reduceCtorEq, if_false, sExt, sHello, sAnswer, sEdit, sDeal, sBox, sDialed, sKnown]
 intro add sub mul arith eq ne lt le gt ge neg conv mn mx not beq len at' ln bd cut app allS isNil mks set o hP F ho
 have c1 : o 337 [I n] = some ⟨[B v], [], none⟩ := by rw [ho, hv]; exact ok337 ..
 cbv
 rw [c1]; cbv
 rw [hQ]; cbv
 rw [← hr, F.not]
end Go.Vm
