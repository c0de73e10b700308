/- What the functions answer. -/
import Derived.Test.YtijojkfdbpiimaaGBTab
set_option maxHeartbeats 4000000
set_option maxRecDepth 10000
set_option linter.unusedVariables false
set_option linter.unusedSimpArgs false
namespace Go.Vm
def AtK (x k : Int) (n : Nat) : Prop := x = k + (n : Int)
def Lim (k : Int) (n : Nat) : Prop := 0 ≤ k ∧ k + (n : Int) ≤ 4611686018427387904
theorem AtK.zero {k : Int} : AtK k k 0 := by unfold AtK; simp
theorem AtK.one {x k : Int} {n : Nat} (h : AtK x k n) : AtK (x + 1) k (n + 1) := by unfold AtK at *; omega
theorem AtK.plus {x k : Int} {n m : Nat} (h : AtK x k n) : AtK (x + (m : Int)) k (n + m) := by unfold AtK at *; omega
theorem AtK.eq {x k : Int} {n m : Nat} (h : AtK x k n) (e : n = m) : AtK x k m := e ▸ h
theorem AtK.same {x k : Int} {n : Nat} (h : AtK x k n) : x = k + (n : Int) := h
theorem AtK.lim {x k : Int} {n m q : Nat} (h : AtK x k n) (l : Lim k q) (e : n + m ≤ q) : Lim x m := by unfold AtK Lim at *; omega
theorem Lim.nn {k : Int} {n : Nat} (l : Lim k n) : 0 ≤ k := l.1
theorem AtK.inc {x k : Int} {n q : Nat} (h : AtK x k n) (l : Lim k q) (e : n ≤ q) : IntKind.wrap .i64 (x + 1) = x + 1 := by unfold AtK Lim at *; exact wrap64 (by omega) (by omega)
theorem Lim.le {k : Int} {n m : Nat} (l : Lim k n) (e : m ≤ n) : Lim k m := by unfold Lim at *; omega
theorem sum_le {α : Type} {c : α → Nat} {B : Nat} : ∀ {l : List α}, (∀ y ∈ l, c y ≤ B) → (l.map c).sum ≤ l.length * B
 | [], _ => by simp
 | x :: l, h => by
  have h1 := h x (by simp)
  have h2 := sum_le (l := l) (fun y hy => h y (by simp [hy]))
  simp only [List.map_cons, List.sum_cons, List.length_cons, Nat.succ_mul]
  omega
theorem Lim.of1 {n : Nat} (h : n ≤ 4611686018427387903) : Lim 1 n := ⟨by decide, by omega⟩
def mI : List Int → Int → List Int
 | [], _ => []
 | _ :: l, k => k :: mI l (k + 1)
theorem mI_len : ∀ (l : List Int) (k : Int), (mI l k).length = l.length
 | [], _ => rfl
 | _ :: l, k => by simp [mI, mI_len l (k + 1)]
theorem mI_app : ∀ (a b : List Int) (k x : Int), AtK x k a.length → mI (a ++ b) k = mI a k ++ mI b x
 | [], b, k, x, h => by simp [AtK] at h; subst h; simp [mI]
 | y :: a, b, k, x, h => by
  simp only [List.cons_append, mI]
  rw [mI_app a b (k + 1) x (by unfold AtK at *; simp at h; omega)]
theorem set_fld {α : Type} {pre suf : List α} {f : α → List V} {k : Nat} {x y : α} {j : Nat} {v : V} {ix : Nat} (hk : ∀ a, (f a).length = k) (hj : j < k) (hy : f y = (f x).set j v) (hix : ix = pre.length * k) : setFlat (row f (pre ++ x :: suf)) (ix + j) [v] = some (row f (pre ++ y :: suf)) := by
 have := set_raw (k := k) [v] j (row f pre) (f x) (row f suf) (by intro a ha; obtain ⟨b, _, rfl⟩ := List.mem_map.1 ha; exact hk b) (hk x) (by simp; omega)
 rw [row_len] at this
 subst hix
 rw [show row f (pre ++ x :: suf) = row f pre ++ f x :: row f suf by simp [row], this]
 have e : (f x).take j ++ [v] ++ (f x).drop (j + [v].length) = f y := by
  rw [hy, List.set_eq_take_append_cons_drop, if_pos (by rw [hk]; exact hj)]; simp
 rw [e]
 simp [row]
theorem ok1080 (l : List Int) (k : Int) (hk : Lim k l.length) (hl : l.length ≤ 1099511627776) : fix Tb md 1080 [R (row fI l) (.mp 0), I k] = some ⟨[I (k + (l.length : Int))], [.row () (row fI (mI l k))], none⟩ := by
 obtain ⟨t, ht⟩ := nm (k + (l.length : Int))
 obtain ⟨et, het⟩ := nm (row fI (mI l k))
 have hT : AtK t k l.length := ht
 rw [← ht, ← het]
 clear ht
 refine fix_fn (fn := ir1080) tb_1080 rfl rfl (by decide) rfl ?_
 generalize hr : (⟨_, [_], none⟩ : Ret) = r
 obtain ⟨ea, hea⟩ := nm (row fI l)
 rw [← hea]
 intro add sub mul arith eq ne lt le gt ge neg conv mn mx not beq len at' ln bd cut app allS isNil mks set o hP F ho
 have la := F.len_at hea
 cbv
 refine loop_ind hP (σ := List Int × List Int × List (List V) × Int × Int) (fun s => [(0, R s.2.2.1 (.mp 0)), (1, I s.2.2.2.1), (4, I 0), (5, I s.2.2.2.2)])
  (fun s => At s.2.2.2.2 s.2.1.length ∧ AtK s.2.2.2.1 k s.2.1.length ∧ l = s.2.1 ++ s.1 ∧ s.2.2.1 = row fI (mI s.2.1 k ++ s.1)) (fun s => s.1.length) (l, [], ea, k, 0) rfl ⟨rfl, AtK.zero, rfl, by simpa [mI] using hea⟩ ?_
 rintro ⟨suf, pre, eo, x, i⟩ ⟨hi, hx, hl', heo⟩ ih
 simp only at hi hx hl' heo ih
 have lo := F.len_at heo
 cbv
 cases suf with
 | nil =>
  rw [F.lt_f hi lo (by simp [mI_len])]; cbv
  rw [← hr, show x = t by rw [hx.same, hT.same, hl']; simp, heo, het, hl']; simp
 | cons y suf =>
  have hl3 : pre.length + 1 ≤ l.length := by rw [hl']; simp
  have a1 : add .i64 x 1 = x + 1 := by rw [F.add, hx.inc hk (by omega)]
  rw [F.lt_t hi lo (by simp [mI_len])]; cbv
  obtain ⟨ix, hix⟩ := nm (pre.length * 1)
  rw [show at' 1 eo i = some (ix, [.int .i64 y]) by rw [hix]; have h := F.get (f := fI) (k := 1) (show At i (mI pre k).length by rw [mI_len]; exact hi) heo rfl (fun _ => rfl) (by decide); rw [mI_len] at h; exact h]; cbv
  obtain ⟨eo', heo'⟩ := nm (row fI (mI pre k ++ x :: suf))
  rw [show set eo ix [.int .i64 x] = some eo' by rw [F.set, heo, hix, heo', ← mI_len pre k]; exact set_one (fun _ => rfl) rfl]; cbv
  rw [a1]
  refine ih (suf, pre ++ [y], eo', x + 1, add .i64 i 1) ⟨at_len (F.inc hi (by omega)) (by simp), hx.one.eq (by simp), by simp [hl'], ?_⟩ (by simp)
  simp only
  rw [heo', mI_app pre [y] k x hx]; simp [mI]
theorem ok1080n (k : Int) : fix Tb md 1080 [R [] .nl, I k] = some ⟨[I k], [], none⟩ := by
 refine fix_fn (fn := ir1080) tb_1080 rfl rfl (by decide) rfl ?_
 generalize hr : (⟨_, [], none⟩ : Ret) = r
 intro add sub mul arith eq ne lt le gt ge neg conv mn mx not beq len at' ln bd cut app allS isNil mks set o hP F ho
 have la : At (len []) 0 := F.len_at (f := fI) (l := []) rfl
 have h0 : lt 0 (len []) = false := F.lt_f at0 la (Nat.le_refl 0)
 cbv
 refine loop_ind hP (σ := Unit) (fun _ => [(0, R [] .nl), (1, I k), (4, I 0), (5, I 0)]) (fun _ => True) (fun _ => 0) () rfl trivial ?_
 rintro ⟨⟩ _ ih
 clear ih
 cbv
 rw [h0]; cbv
 exact congrArg some hr
def mExt (x : Ext) (k : Int) : Ext := ⟨k, mI x.body (k + 1)⟩
def cExt (x : Ext) : Nat := 1 + x.body.length
def mExtS : List Ext → Int → List Ext
 | [], _ => []
 | x :: l, k => mExt x k :: mExtS l (k + (cExt x : Int))
def cExtS (l : List Ext) : Nat := (l.map cExt).sum
theorem mExtS_len : ∀ (l : List Ext) (k : Int), (mExtS l k).length = l.length
 | [], _ => rfl
 | _ :: l, k => by simp [mExtS, mExtS_len l _]
theorem mExtS_app : ∀ (a b : List Ext) (k x : Int), AtK x k (cExtS a) → mExtS (a ++ b) k = mExtS a k ++ mExtS b x
 | [], b, k, x, h => by simp [AtK, cExtS] at h; subst h; simp [mExtS]
 | y :: a, b, k, x, h => by
  simp only [List.cons_append, mExtS]
  rw [mExtS_app a b (k + (cExt y : Int)) x (by unfold AtK at *; simp [cExtS] at h ⊢; omega)]
theorem cExt_mid {x : Ext} (w : x.Mid) : cExt x ≤ 2147483650 := by unfold Ext.Mid at w; unfold cExt; omega
theorem cExt_small {x : Ext} (w : x.Small) : cExt x ≤ 2097154 := by unfold Ext.Small at w; unfold cExt; omega
theorem cExtS_mid {l : List Ext} (w : l.length ≤ 1073741824 ∧ ∀ y ∈ l, y.Mid) : cExtS l ≤ 2305843011361177600 :=
 Nat.le_trans (sum_le fun y hy => cExt_mid (w.2 y hy)) (Nat.mul_le_mul_right _ w.1)
theorem cExtS_small {l : List Ext} (w : l.length ≤ 1048576 ∧ ∀ y ∈ l, y.Small) : cExtS l ≤ 2199025352704 :=
 Nat.le_trans (sum_le fun y hy => cExt_small (w.2 y hy)) (Nat.mul_le_mul_right _ w.1)
set_option maxHeartbeats 2000000 in
theorem ok1201 (l : List Ext) (k : Int) (hk : Lim k (cExtS l)) (hl : l.length ≤ 1099511627776) (w0 : ∀ y ∈ l, y.body.length ≤ 1099511627776) : fix Tb md 1201 [R (row fExt l) (.mp 0), I k] = some ⟨[I (k + (cExtS l : Int))], [.row () (row fExt (mExtS l k))], none⟩ := by
 obtain ⟨t, ht⟩ := nm (k + (cExtS l : Int))
 obtain ⟨et, het⟩ := nm (row fExt (mExtS l k))
 have hT : AtK t k (cExtS l) := ht
 rw [← ht, ← het]
 clear ht
 refine fix_fn (fn := ir1201) tb_1201 rfl rfl (by decide) rfl ?_
 generalize hr : (⟨_, [_], none⟩ : Ret) = r
 obtain ⟨ea, hea⟩ := nm (row fExt l)
 rw [← hea]
 intro add sub mul arith eq ne lt le gt ge neg conv mn mx not beq len at' ln bd cut app allS isNil mks set o hP F ho
 cbv
 refine loop_ind hP (σ := List Ext × List Ext × List (List V) × Int × Int) (fun s => [(0, R s.2.2.1 (.mp 0)), (1, I s.2.2.2.1), (4, I 0), (5, I s.2.2.2.2)])
  (fun s => At s.2.2.2.2 s.2.1.length ∧ AtK s.2.2.2.1 k (cExtS s.2.1) ∧ l = s.2.1 ++ s.1 ∧ s.2.2.1 = row fExt (mExtS s.2.1 k ++ s.1)) (fun s => s.1.length) (l, [], ea, k, 0) rfl ⟨rfl, AtK.zero, rfl, by simpa [mExtS] using hea⟩ ?_
 rintro ⟨suf, pre, eo, z0, i⟩ ⟨hi, a0, hl', heo⟩ ih
 simp only at hi a0 hl' heo ih
 have lo := F.len_at heo
 cbv
 cases suf with
 | nil =>
  rw [F.lt_f hi lo (by simp [mExtS_len])]; cbv
  rw [← hr, show z0 = t by rw [a0.same, hT.same, hl']; simp, heo, het, hl']; simp
 | cons x suf =>
  have hl3 : pre.length + 1 ≤ l.length := by rw [hl']; simp
  have hc : cExtS l = cExtS pre + (cExt x + cExtS suf) := by rw [hl']; simp [cExtS]
  have hcx : cExt x = 1 + x.body.length := rfl
  obtain ⟨z1, hz1⟩ := nm (z0 + 1)
  have a1 : AtK z1 k (cExtS pre + 1) := hz1 ▸ a0.one
  have s1 : add .i64 z0 1 = z1 := by rw [F.add, a0.inc hk (by omega), hz1]
  obtain ⟨z2, hz2⟩ := nm (z1 + (x.body.length : Int))
  have a2 : AtK z2 k (cExtS pre + 1 + x.body.length) := hz2 ▸ a1.plus
  have m2 : Lim z1 x.body.length := a1.lim hk (by omega)
  have n2 : 0 ≤ z2 := by have := m2.nn; omega
  have hmx : mExt x z0 = (⟨z0, (mI x.body z1)⟩ : Ext) := by simp only [mExt, hz1, hz2]
  have hzn : z0 + (cExt x : Int) = z2 := by rw [hcx, a2.same, a0.same]; omega
  have y0 : x.body.length ≤ 1099511627776 := w0 x (by rw [hl']; simp)
  obtain ⟨e1, he1⟩ := nm (row fI x.body)
  obtain ⟨g1, hg1⟩ := nm (row fI (mI x.body z1))
  rw [F.lt_t hi lo (by simp [mExtS_len])]; cbv
  obtain ⟨ix, hix⟩ := nm (pre.length * 2)
  obtain ⟨eo1, heo1⟩ := nm (row fExt (mExtS pre k ++ (⟨z0, x.body⟩ : Ext) :: suf))
  obtain ⟨eo2, heo2⟩ := nm (row fExt (mExtS pre k ++ (⟨z0, (mI x.body z1)⟩ : Ext) :: suf))
  rw [show at' 2 eo i = some (ix, [.int .i64 x.tag, .row () e1]) by simp only [hix, he1, hg1]; have h := F.get (f := fExt) (k := 2) (show At i (mExtS pre k).length by rw [mExtS_len]; exact hi) heo rfl (fun _ => rfl) (by decide); rw [mExtS_len] at h; exact h]; cbv
  have q0 : setFlat eo (ix + 0) [.int .i64 z0] = some eo1 := by simp only [heo, heo1, he1, hg1]; exact set_fld (k := 2) (fun _ => rfl) (by decide) (by simp [fExt]) (by rw [hix, mExtS_len])
  first | rw [show set eo (ix + 0) [.int .i64 z0] = some eo1 by rw [F.set]; exact q0] | rw [show set eo (Nat.add ix 0) [.int .i64 z0] = some eo1 by rw [F.set]; exact q0] | rw [show set eo ix [.int .i64 z0] = some eo1 by rw [F.set]; exact q0] | trace_state
  cbv
  rw [s1]
  rw [show at' 2 eo1 i = some (ix, [.int .i64 z0, .row () e1]) by simp only [hix, he1, hg1]; have h := F.get (f := fExt) (k := 2) (show At i (mExtS pre k).length by rw [mExtS_len]; exact hi) heo1 rfl (fun _ => rfl) (by decide); rw [mExtS_len] at h; exact h]; cbv
  have c1 : o 1080 [R e1 (.mp 0), I z1] = some ⟨[I z2], [.row () g1], none⟩ := by rw [ho, he1, hg1, hz2]; exact ok1080 _ _ m2 y0
  rw [c1]; cbv
  have q1 : setFlat eo1 (ix + 1) [.row () g1] = some eo2 := by simp only [heo1, heo2, he1, hg1]; exact set_fld (k := 2) (fun _ => rfl) (by decide) (by simp [fExt]) (by rw [hix, mExtS_len])
  first | rw [show set eo1 (ix + 1) [.row () g1] = some eo2 by rw [F.set]; exact q1] | rw [show set eo1 (Nat.add ix 1) [.row () g1] = some eo2 by rw [F.set]; exact q1] | rw [show set eo1 ix [.row () g1] = some eo2 by rw [F.set]; exact q1] | trace_state
  cbv
  refine ih (suf, pre ++ [x], eo2, z2, add .i64 i 1) ⟨at_len (F.inc hi (by omega)) (by simp), a2.eq (by simp [cExtS, cExt] <;> omega), by simp [hl'], ?_⟩ (by simp)
  simp only
  rw [heo2, mExtS_app pre [x] k z0 a0, ← hmx]; simp [mExtS]
theorem ok1201n (k : Int) : fix Tb md 1201 [R [] .nl, I k] = some ⟨[I k], [], none⟩ := by
 refine fix_fn (fn := ir1201) tb_1201 rfl rfl (by decide) rfl ?_
 generalize hr : (⟨_, [], none⟩ : Ret) = r
 intro add sub mul arith eq ne lt le gt ge neg conv mn mx not beq len at' ln bd cut app allS isNil mks set o hP F ho
 have la : At (len []) 0 := F.len_at (f := fExt) (l := []) rfl
 have h0 : lt 0 (len []) = false := F.lt_f at0 la (Nat.le_refl 0)
 cbv
 refine loop_ind hP (σ := Unit) (fun _ => [(0, R [] .nl), (1, I k), (4, I 0), (5, I 0)]) (fun _ => True) (fun _ => 0) () rfl trivial ?_
 rintro ⟨⟩ _ ih
 clear ih
 cbv
 rw [h0]; cbv
 exact congrArg some hr
def wHello (x : Hello) (k : Int) : Hello := ⟨mI x.versions k, mExtS x.exts (k + (x.versions.length : Int))⟩
def nHello (x : Hello) : Nat := x.versions.length + cExtS x.exts
theorem nHello_mid {x : Hello} (w : x.Mid) : nHello x ≤ 2305843016730000000 := by unfold Hello.Mid at w; have h0 := w.1; have h1 := cExtS_mid (show _ from w.2); unfold nHello; omega
theorem nHello_small {x : Hello} (w : x.Small) : nHello x ≤ 2199100000000 := by unfold Hello.Small at w; have h0 := w.1; have h1 := cExtS_small (show _ from w.2); unfold nHello; omega
theorem ok1081 (x : Hello) (k : Int) (hk : Lim k (nHello x)) (w : x.Mid) : fix Tb md 1081 [sHello (row fI x.versions) (row fExt x.exts) (.mp 0) (.mp 1), I k] = some ⟨[I (k + (nHello x : Int))], [.row () (row fI (wHello x k).versions), .row () (row fExt (wHello x k).exts)], none⟩ := by
 have hn : nHello x = x.versions.length + cExtS x.exts := rfl
 unfold Hello.Mid at w
 have a0 : AtK k k 0 := AtK.zero
 obtain ⟨z1, hz1⟩ := nm (k + (x.versions.length : Int))
 have a1 : AtK z1 k (0 + x.versions.length) := hz1 ▸ a0.plus
 have m1 : Lim k (x.versions.length) := a0.lim hk (by omega)
 have n1 : 0 ≤ z1 := by have := m1.nn; omega
 obtain ⟨z2, hz2⟩ := nm (z1 + (cExtS x.exts : Int))
 have a2 : AtK z2 k (0 + x.versions.length + cExtS x.exts) := hz2 ▸ a1.plus
 have m2 : Lim z1 (cExtS x.exts) := a1.lim hk (by omega)
 have n2 : 0 ≤ z2 := by have := m2.nn; omega
 rw [show k + (nHello x : Int) = z2 by rw [a2.same, hn]; simp]
 have x0 : (wHello x k).versions = mI x.versions k := by simp only [wHello, hz1, hz2]
 have x1 : (wHello x k).exts = mExtS x.exts z1 := by simp only [wHello, hz1, hz2]
 rw [x0, x1]
 obtain ⟨g0, hg0⟩ := nm (row fI (mI x.versions k))
 obtain ⟨e0, he0⟩ := nm (row fI x.versions)
 obtain ⟨g1, hg1⟩ := nm (row fExt (mExtS x.exts z1))
 obtain ⟨e1, he1⟩ := nm (row fExt x.exts)
 rw [← hg0, ← he0, ← hg1, ← he1]
 refine fix_fn (fn := ir1081) tb_1081 rfl rfl (by decide) rfl ?_
 generalize hr : (⟨_, [_, _], none⟩ : Ret) = r
 intro add sub mul arith eq ne lt le gt ge neg conv mn mx not beq len at' ln bd cut app allS isNil mks set o hP F ho
 have c1 : o 1080 [R e0 (.mp 0), I k] = some ⟨[I z1], [.row () g0], none⟩ := by rw [ho, hz1, hg0, he0]; exact ok1080 _ _ m1 (Nat.le_trans (w.1) (by decide))
 have c2 : o 1201 [R e1 (.mp 0), I z1] = some ⟨[I z2], [.row () g1], none⟩ := by rw [ho, hz2, hg1, he1]; exact ok1201 _ _ m2 (Nat.le_trans w.2.1 (by decide)) (fun y hy => Nat.le_trans ((w.2.2 y hy)) (by decide))
 cbv
 rw [c1]; cbv
 rw [c2]; cbv
 exact congrArg some hr
theorem ok1081_on (x : Hello) (k : Int) (hk : Lim k (nHello x)) (w : x.Mid) (y1 : x.exts = []) : fix Tb md 1081 [sHello (row fI x.versions) (row fExt x.exts) (.mp 0) .nl, I k] = some ⟨[I (k + (nHello x : Int))], [.row () (row fI (wHello x k).versions)], none⟩ := by
 have hn : nHello x = x.versions.length + cExtS x.exts := rfl
 unfold Hello.Mid at w
 have a0 : AtK k k 0 := AtK.zero
 obtain ⟨z1, hz1⟩ := nm (k + (x.versions.length : Int))
 have a1 : AtK z1 k (0 + x.versions.length) := hz1 ▸ a0.plus
 have m1 : Lim k (x.versions.length) := a0.lim hk (by omega)
 have n1 : 0 ≤ z1 := by have := m1.nn; omega
 obtain ⟨z2, hz2⟩ := nm (z1 + (cExtS x.exts : Int))
 have a2 : AtK z2 k (0 + x.versions.length + cExtS x.exts) := hz2 ▸ a1.plus
 have m2 : Lim z1 (cExtS x.exts) := a1.lim hk (by omega)
 have n2 : 0 ≤ z2 := by have := m2.nn; omega
 rw [show k + (nHello x : Int) = z2 by rw [a2.same, hn]; simp]
 have x0 : (wHello x k).versions = mI x.versions k := by simp only [wHello, hz1, hz2]
 have x1 : (wHello x k).exts = mExtS x.exts z1 := by simp only [wHello, hz1, hz2]
 rw [x0]
 obtain ⟨g0, hg0⟩ := nm (row fI (mI x.versions k))
 obtain ⟨e0, he0⟩ := nm (row fI x.versions)
 have e1 : row fExt x.exts = [] := by rw [y1]; rfl
 rw [← hg0, ← he0, e1]
 refine fix_fn (fn := ir1081) tb_1081 rfl rfl (by decide) rfl ?_
 generalize hr : (⟨_, [_], none⟩ : Ret) = r
 intro add sub mul arith eq ne lt le gt ge neg conv mn mx not beq len at' ln bd cut app allS isNil mks set o hP F ho
 have c1 : o 1080 [R e0 (.mp 0), I k] = some ⟨[I z1], [.row () g0], none⟩ := by rw [ho, hz1, hg0, he0]; exact ok1080 _ _ m1 (Nat.le_trans (w.1) (by decide))
 have c2 : o 1201 [R [] .nl, I z1] = some ⟨[I z2], [], none⟩ := by rw [ho, show z2 = z1 by rw [hz2, y1]; simp [cExtS]]; exact ok1201n _
 cbv
 rw [c1]; cbv
 rw [c2]; cbv
 exact congrArg some hr
theorem ok1081_no (x : Hello) (k : Int) (hk : Lim k (nHello x)) (w : x.Mid) (y0 : x.versions = []) : fix Tb md 1081 [sHello (row fI x.versions) (row fExt x.exts) .nl (.mp 0), I k] = some ⟨[I (k + (nHello x : Int))], [.row () (row fExt (wHello x k).exts)], none⟩ := by
 have hn : nHello x = x.versions.length + cExtS x.exts := rfl
 unfold Hello.Mid at w
 have a0 : AtK k k 0 := AtK.zero
 obtain ⟨z1, hz1⟩ := nm (k + (x.versions.length : Int))
 have a1 : AtK z1 k (0 + x.versions.length) := hz1 ▸ a0.plus
 have m1 : Lim k (x.versions.length) := a0.lim hk (by omega)
 have n1 : 0 ≤ z1 := by have := m1.nn; omega
 obtain ⟨z2, hz2⟩ := nm (z1 + (cExtS x.exts : Int))
 have a2 : AtK z2 k (0 + x.versions.length + cExtS x.exts) := hz2 ▸ a1.plus
 have m2 : Lim z1 (cExtS x.exts) := a1.lim hk (by omega)
 have n2 : 0 ≤ z2 := by have := m2.nn; omega
 rw [show k + (nHello x : Int) = z2 by rw [a2.same, hn]; simp]
 have x0 : (wHello x k).versions = mI x.versions k := by simp only [wHello, hz1, hz2]
 have x1 : (wHello x k).exts = mExtS x.exts z1 := by simp only [wHello, hz1, hz2]
 rw [x1]
 have e0 : row fI x.versions = [] := by rw [y0]; rfl
 obtain ⟨g1, hg1⟩ := nm (row fExt (mExtS x.exts z1))
 obtain ⟨e1, he1⟩ := nm (row fExt x.exts)
 rw [e0, ← hg1, ← he1]
 refine fix_fn (fn := ir1081) tb_1081 rfl rfl (by decide) rfl ?_
 generalize hr : (⟨_, [_], none⟩ : Ret) = r
 intro add sub mul arith eq ne lt le gt ge neg conv mn mx not beq len at' ln bd cut app allS isNil mks set o hP F ho
 have c1 : o 1080 [R [] .nl, I k] = some ⟨[I z1], [], none⟩ := by rw [ho, show z1 = k by rw [hz1, y0]; simp]; exact ok1080n _
 have c2 : o 1201 [R e1 (.mp 0), I z1] = some ⟨[I z2], [.row () g1], none⟩ := by rw [ho, hz2, hg1, he1]; exact ok1201 _ _ m2 (Nat.le_trans w.2.1 (by decide)) (fun y hy => Nat.le_trans ((w.2.2 y hy)) (by decide))
 cbv
 rw [c1]; cbv
 rw [c2]; cbv
 exact congrArg some hr
theorem ok1081_nn (x : Hello) (k : Int) (hk : Lim k (nHello x)) (w : x.Mid) (y0 : x.versions = []) (y1 : x.exts = []) : fix Tb md 1081 [sHello (row fI x.versions) (row fExt x.exts) .nl .nl, I k] = some ⟨[I (k + (nHello x : Int))], [], none⟩ := by
 have hn : nHello x = x.versions.length + cExtS x.exts := rfl
 unfold Hello.Mid at w
 have a0 : AtK k k 0 := AtK.zero
 obtain ⟨z1, hz1⟩ := nm (k + (x.versions.length : Int))
 have a1 : AtK z1 k (0 + x.versions.length) := hz1 ▸ a0.plus
 have m1 : Lim k (x.versions.length) := a0.lim hk (by omega)
 have n1 : 0 ≤ z1 := by have := m1.nn; omega
 obtain ⟨z2, hz2⟩ := nm (z1 + (cExtS x.exts : Int))
 have a2 : AtK z2 k (0 + x.versions.length + cExtS x.exts) := hz2 ▸ a1.plus
 have m2 : Lim z1 (cExtS x.exts) := a1.lim hk (by omega)
 have n2 : 0 ≤ z2 := by have := m2.nn; omega
 rw [show k + (nHello x : Int) = z2 by rw [a2.same, hn]; simp]
 have x0 : (wHello x k).versions = mI x.versions k := by simp only [wHello, hz1, hz2]
 have x1 : (wHello x k).exts = mExtS x.exts z1 := by simp only [wHello, hz1, hz2]
 have e0 : row fI x.versions = [] := by rw [y0]; rfl
 have e1 : row fExt x.exts = [] := by rw [y1]; rfl
 rw [e0, e1]
 refine fix_fn (fn := ir1081) tb_1081 rfl rfl (by decide) rfl ?_
 generalize hr : (⟨_, [], none⟩ : Ret) = r
 intro add sub mul arith eq ne lt le gt ge neg conv mn mx not beq len at' ln bd cut app allS isNil mks set o hP F ho
 have c1 : o 1080 [R [] .nl, I k] = some ⟨[I z1], [], none⟩ := by rw [ho, show z1 = k by rw [hz1, y0]; simp]; exact ok1080n _
 have c2 : o 1201 [R [] .nl, I z1] = some ⟨[I z2], [], none⟩ := by rw [ho, show z2 = z1 by rw [hz2, y1]; simp [cExtS]]; exact ok1201n _
 cbv
 rw [c1]; cbv
 rw [c2]; cbv
 exact congrArg some hr
theorem ok232 (x lo hi : Int) : fix Tb md 232 [I x, I lo, I hi] = some ⟨[B (inR x lo hi)], [], none⟩ := by
 refine fix_fn (fn := ir232) tb_232 rfl rfl (by decide) rfl ?_; simp only [shutArgs, shutS, List.map_cons, List.map_nil, ir232, List.head?_nil, reduceCtorEq, if_false, sExt, sHello, sAnswer, sEdit, sDeal, sBox, sDialed, sKnown]
 generalize hr : (⟨_, [], none⟩ : Ret) = r
 intro add sub mul arith eq ne lt le gt ge neg conv mn mx not beq len at' ln bd cut app allS isNil mks set o hP F ho
 cbv
 repeat' (first | (refine both (fun c => ?_) (fun c => ?_) <;> (try rw [c]) <;> (try cbv)))
 all_goals (clear hP  ho; try simp only [F.eq, F.ne, F.le, F.lt, F.ge, F.gt, F.not, F.beq] at *; clear F; subst hr)
 all_goals (simp_all [inR] <;> (intros; omega))
def ixOf {α : Type} (p : α → Bool) : List α → Int → Int
 | [], _ => -1
 | x :: l, i => if p x = true then i else ixOf p l (i + 1)
theorem ixOf_ge {α : Type} (p : α → Bool) : ∀ (l : List α) (i : Int), 0 ≤ i → decide (0 ≤ ixOf p l i) = l.any p
 | [], i, h => by simp [ixOf]
 | x :: l, i, h => by
  unfold ixOf
  rw [List.any_cons]
  by_cases hx : p x = true
  ·rw [if_pos hx, hx]; simpa using h
  ·rw [if_neg hx, ixOf_ge p l (i + 1) (by omega)]; simp at hx; simp [hx]
theorem ixOf_none {α : Type} {p : α → Bool} : ∀ {l : List α} {i : Int}, l.any p = false → ixOf p l i = -1
 | [], i, _ => rfl
 | x :: l, i, h => by
  rw [List.any_cons, Bool.or_eq_false_iff] at h
  unfold ixOf
  rw [if_neg (by rw [h.1]; decide), ixOf_none h.2]
theorem ok377_0 (g : Nat) (hg : md g = []) (p : Int → Bool) (l : List Int) (hl : l.length ≤ 1099511627776) (hp : ∀ x ∈ l, fix Tb md g [I x] = some ⟨[B (p x)], [], none⟩) {f0 : Fl} (h0 : inFl f0 = true) :
  fix Tb md 377 [R (row fI l) f0, ⟨.val, [⟨.fn g [], .sh⟩]⟩] = some ⟨[I (ixOf p l 0)], [], none⟩ := by
 generalize hm : md = m at hg hp ⊢
 refine fix_fn (fn := ir377) tb_377 rfl rfl (by decide) rfl ?_; simp only [shutArgs, shutS, List.map_cons, List.map_nil, ir377, shut_in h0, List.head?_nil, reduceCtorEq, if_false, sExt, sHello, sAnswer, sEdit, sDeal, sBox, sDialed, sKnown]
 generalize hr : (⟨_, [], none⟩ : Ret) = r
 obtain ⟨ea, hea⟩ := nm (row fI l)
 rw [← hea]
 intro add sub mul arith eq ne lt le gt ge neg conv mn mx not beq len at' ln bd cut app allS isNil mks set o hP F ho
 have la := F.len_at hea
 cbv
 refine loop_ind hP (σ := List Int × List Int × Int × Option Int) (fun s => match s.2.2.2 with | none => [(0, R ea .sh), (1, ⟨.val, [⟨.fn g [], .sh⟩]⟩), (4, I 0), (7, I (len ea)), (8, I s.2.2.1)] | some j => [(0, R ea .sh), (1, ⟨.val, [⟨.fn g [], .sh⟩]⟩), (4, I 0), (5, I j), (7, I (len ea)), (8, I s.2.2.1)])
  (fun s => At s.2.2.1 s.2.1.length ∧ l = s.2.1 ++ s.1 ∧ ixOf p s.1 (s.2.1.length : Int) = ixOf p l 0) (fun s => s.1.length) (l, [], 0, none) rfl ⟨rfl, rfl, rfl⟩ ?_
 rintro ⟨suf, pre, i, j⟩ ⟨hi, hl', hx⟩ ih
 simp only at hi hl' hx ih
 have hi' : i = (pre.length : Int) := hi
 rw [← hi'] at hx
 cases j <;> cbv <;> (
  cases suf with
  | nil =>
   rw [F.lt_f hi la (by simp [hl'])]; cbv
   rw [← hr, ← hx]; rfl
  | cons x suf =>
   rw [F.lt_t hi la (by simp [hl'])]; cbv
   obtain ⟨ix, hix⟩ := nm (pre.length * 1)
   rw [show at' 1 ea i = some (ix, [.int .i64 x]) by rw [hix]; exact F.get hi hea hl' (fun _ => rfl) (by decide)]; cbv
   obtain ⟨v, hv⟩ := nm (p x)
   have c1 : o g [I x] = some ⟨[B v], [], none⟩ := by rw [ho, hv]; exact hp x (by rw [hl']; simp)
   rw [hg]; cbv
   rw [c1]; cbv
   have hx1 : ixOf p (x :: suf) i = if p x = true then i else ixOf p suf (i + 1) := rfl
   rw [hx1] at hx
   refine both (fun c => ?_) (fun c => ?_) <;> rw [c] <;> cbv
   ·rw [← hv, if_pos c] at hx
    rw [← hr, ← hx]
   ·rw [← hv, if_neg (by simp [c])] at hx
    refine ih (suf, pre ++ [x], add .i64 i 1, some i) ⟨at_len (F.inc hi (by simp [hl'] at hl; omega)) (by simp), by simp [hl'], ?_⟩ (by simp)
    rw [← hx, hi']
    simp)
theorem ok377_1 (g : Nat) (hg : md g = []) (k0 : V) (p : Int → Bool) (l : List Int) (hl : l.length ≤ 1099511627776) (hp : ∀ x ∈ l, fix Tb md g [I x, ⟨.val, [⟨k0, .sh⟩]⟩] = some ⟨[B (p x)], [], none⟩) {f0 : Fl} (h0 : inFl f0 = true) :
  fix Tb md 377 [R (row fI l) f0, ⟨.val, [⟨.fn g [k0], .sh⟩]⟩] = some ⟨[I (ixOf p l 0)], [], none⟩ := by
 generalize hm : md = m at hg hp ⊢
 refine fix_fn (fn := ir377) tb_377 rfl rfl (by decide) rfl ?_; simp only [shutArgs, shutS, List.map_cons, List.map_nil, ir377, shut_in h0, List.head?_nil, reduceCtorEq, if_false, sExt, sHello, sAnswer, sEdit, sDeal, sBox, sDialed, sKnown]
 generalize hr : (⟨_, [], none⟩ : Ret) = r
 obtain ⟨ea, hea⟩ := nm (row fI l)
 rw [← hea]
 intro add sub mul arith eq ne lt le gt ge neg conv mn mx not beq len at' ln bd cut app allS isNil mks set o hP F ho
 have la := F.len_at hea
 cbv
 refine loop_ind hP (σ := List Int × List Int × Int × Option Int) (fun s => match s.2.2.2 with | none => [(0, R ea .sh), (1, ⟨.val, [⟨.fn g [k0], .sh⟩]⟩), (4, I 0), (7, I (len ea)), (8, I s.2.2.1)] | some j => [(0, R ea .sh), (1, ⟨.val, [⟨.fn g [k0], .sh⟩]⟩), (4, I 0), (5, I j), (7, I (len ea)), (8, I s.2.2.1)])
  (fun s => At s.2.2.1 s.2.1.length ∧ l = s.2.1 ++ s.1 ∧ ixOf p s.1 (s.2.1.length : Int) = ixOf p l 0) (fun s => s.1.length) (l, [], 0, none) rfl ⟨rfl, rfl, rfl⟩ ?_
 rintro ⟨suf, pre, i, j⟩ ⟨hi, hl', hx⟩ ih
 simp only at hi hl' hx ih
 have hi' : i = (pre.length : Int) := hi
 rw [← hi'] at hx
 cases j <;> cbv <;> (
  cases suf with
  | nil =>
   rw [F.lt_f hi la (by simp [hl'])]; cbv
   rw [← hr, ← hx]; rfl
  | cons x suf =>
   rw [F.lt_t hi la (by simp [hl'])]; cbv
   obtain ⟨ix, hix⟩ := nm (pre.length * 1)
   rw [show at' 1 ea i = some (ix, [.int .i64 x]) by rw [hix]; exact F.get hi hea hl' (fun _ => rfl) (by decide)]; cbv
   obtain ⟨v, hv⟩ := nm (p x)
   have c1 : o g [I x, ⟨.val, [⟨k0, .sh⟩]⟩] = some ⟨[B v], [], none⟩ := by rw [ho, hv]; exact hp x (by rw [hl']; simp)
   rw [hg]; cbv
   rw [c1]; cbv
   have hx1 : ixOf p (x :: suf) i = if p x = true then i else ixOf p suf (i + 1) := rfl
   rw [hx1] at hx
   refine both (fun c => ?_) (fun c => ?_) <;> rw [c] <;> cbv
   ·rw [← hv, if_pos c] at hx
    rw [← hr, ← hx]
   ·rw [← hv, if_neg (by simp [c])] at hx
    refine ih (suf, pre ++ [x], add .i64 i 1, some i) ⟨at_len (F.inc hi (by simp [hl'] at hl; omega)) (by simp), by simp [hl'], ?_⟩ (by simp)
    rw [← hx, hi']
    simp)
theorem ok377_2 (g : Nat) (hg : md g = []) (k0 k1 : V) (p : Int → Bool) (l : List Int) (hl : l.length ≤ 1099511627776) (hp : ∀ x ∈ l, fix Tb md g [I x, ⟨.val, [⟨k0, .sh⟩]⟩, ⟨.val, [⟨k1, .sh⟩]⟩] = some ⟨[B (p x)], [], none⟩) {f0 : Fl} (h0 : inFl f0 = true) :
  fix Tb md 377 [R (row fI l) f0, ⟨.val, [⟨.fn g [k0, k1], .sh⟩]⟩] = some ⟨[I (ixOf p l 0)], [], none⟩ := by
 generalize hm : md = m at hg hp ⊢
 refine fix_fn (fn := ir377) tb_377 rfl rfl (by decide) rfl ?_; simp only [shutArgs, shutS, List.map_cons, List.map_nil, ir377, shut_in h0, List.head?_nil, reduceCtorEq, if_false, sExt, sHello, sAnswer, sEdit, sDeal, sBox, sDialed, sKnown]
 generalize hr : (⟨_, [], none⟩ : Ret) = r
 obtain ⟨ea, hea⟩ := nm (row fI l)
 rw [← hea]
 intro add sub mul arith eq ne lt le gt ge neg conv mn mx not beq len at' ln bd cut app allS isNil mks set o hP F ho
 have la := F.len_at hea
 cbv
 refine loop_ind hP (σ := List Int × List Int × Int × Option Int) (fun s => match s.2.2.2 with | none => [(0, R ea .sh), (1, ⟨.val, [⟨.fn g [k0, k1], .sh⟩]⟩), (4, I 0), (7, I (len ea)), (8, I s.2.2.1)] | some j => [(0, R ea .sh), (1, ⟨.val, [⟨.fn g [k0, k1], .sh⟩]⟩), (4, I 0), (5, I j), (7, I (len ea)), (8, I s.2.2.1)])
  (fun s => At s.2.2.1 s.2.1.length ∧ l = s.2.1 ++ s.1 ∧ ixOf p s.1 (s.2.1.length : Int) = ixOf p l 0) (fun s => s.1.length) (l, [], 0, none) rfl ⟨rfl, rfl, rfl⟩ ?_
 rintro ⟨suf, pre, i, j⟩ ⟨hi, hl', hx⟩ ih
 simp only at hi hl' hx ih
 have hi' : i = (pre.length : Int) := hi
 rw [← hi'] at hx
 cases j <;> cbv <;> (
  cases suf with
  | nil =>
   rw [F.lt_f hi la (by simp [hl'])]; cbv
   rw [← hr, ← hx]; rfl
  | cons x suf =>
   rw [F.lt_t hi la (by simp [hl'])]; cbv
   obtain ⟨ix, hix⟩ := nm (pre.length * 1)
   rw [show at' 1 ea i = some (ix, [.int .i64 x]) by rw [hix]; exact F.get hi hea hl' (fun _ => rfl) (by decide)]; cbv
   obtain ⟨v, hv⟩ := nm (p x)
   have c1 : o g [I x, ⟨.val, [⟨k0, .sh⟩]⟩, ⟨.val, [⟨k1, .sh⟩]⟩] = some ⟨[B v], [], none⟩ := by rw [ho, hv]; exact hp x (by rw [hl']; simp)
   rw [hg]; cbv
   rw [c1]; cbv
   have hx1 : ixOf p (x :: suf) i = if p x = true then i else ixOf p suf (i + 1) := rfl
   rw [hx1] at hx
   refine both (fun c => ?_) (fun c => ?_) <;> rw [c] <;> cbv
   ·rw [← hv, if_pos c] at hx
    rw [← hr, ← hx]
   ·rw [← hv, if_neg (by simp [c])] at hx
    refine ih (suf, pre ++ [x], add .i64 i 1, some i) ⟨at_len (F.inc hi (by simp [hl'] at hl; omega)) (by simp), by simp [hl'], ?_⟩ (by simp)
    rw [← hx, hi']
    simp)
theorem ok336_0 (g : Nat) (hg : md g = []) (p : Int → Bool) (l : List Int) (hl : l.length ≤ 1099511627776) (hp : ∀ x ∈ l, fix Tb md g [I x] = some ⟨[B (p x)], [], none⟩) {f0 : Fl} (h0 : inFl f0 = true) :
  fix Tb md 336 [R (row fI l) f0, ⟨.val, [⟨.fn g [], .sh⟩]⟩] = some ⟨[B (l.any p)], [], none⟩ := by
 refine fix_fn (fn := ir336) tb_336 rfl rfl (by decide) rfl ?_; simp only [shutArgs, shutS, List.map_cons, List.map_nil, ir336, shut_in h0, List.head?_nil, reduceCtorEq, if_false, sExt, sHello, sAnswer, sEdit, sDeal, sBox, sDialed, sKnown]
 generalize hr : (⟨_, [], none⟩ : Ret) = r
 obtain ⟨ea, hea⟩ := nm (row fI l)
 rw [← hea]
 obtain ⟨v, hv⟩ := nm (ixOf p l 0)
 have hv2 : decide (0 ≤ v) = l.any p := by rw [hv]; exact ixOf_ge p l 0 (by decide)
 rw [← hv2] at hr
 clear hv2
 intro add sub mul arith eq ne lt le gt ge neg conv mn mx not beq len at' ln bd cut app allS isNil mks set o hP F ho
 have c1 : o 377 [R ea (.sp 0 0), ⟨.val, [⟨.fn g [], .sh⟩]⟩] = some ⟨[I v], [], none⟩ := by rw [ho, hv, hea]; exact ok377_0 g hg p l hl hp rfl
 cbv
 rw [c1]; cbv
 rw [← hr, F.ge]
theorem ok336_1 (g : Nat) (hg : md g = []) (k0 : V) (p : Int → Bool) (l : List Int) (hl : l.length ≤ 1099511627776) (hp : ∀ x ∈ l, fix Tb md g [I x, ⟨.val, [⟨k0, .sh⟩]⟩] = some ⟨[B (p x)], [], none⟩) {f0 : Fl} (h0 : inFl f0 = true) :
  fix Tb md 336 [R (row fI l) f0, ⟨.val, [⟨.fn g [k0], .sh⟩]⟩] = some ⟨[B (l.any p)], [], none⟩ := by
 refine fix_fn (fn := ir336) tb_336 rfl rfl (by decide) rfl ?_; simp only [shutArgs, shutS, List.map_cons, List.map_nil, ir336, shut_in h0, List.head?_nil, reduceCtorEq, if_false, sExt, sHello, sAnswer, sEdit, sDeal, sBox, sDialed, sKnown]
 generalize hr : (⟨_, [], none⟩ : Ret) = r
 obtain ⟨ea, hea⟩ := nm (row fI l)
 rw [← hea]
 obtain ⟨v, hv⟩ := nm (ixOf p l 0)
 have hv2 : decide (0 ≤ v) = l.any p := by rw [hv]; exact ixOf_ge p l 0 (by decide)
 rw [← hv2] at hr
 clear hv2
 intro add sub mul arith eq ne lt le gt ge neg conv mn mx not beq len at' ln bd cut app allS isNil mks set o hP F ho
 have c1 : o 377 [R ea (.sp 0 0), ⟨.val, [⟨.fn g [k0], .sh⟩]⟩] = some ⟨[I v], [], none⟩ := by rw [ho, hv, hea]; exact ok377_1 g hg k0 p l hl hp rfl
 cbv
 rw [c1]; cbv
 rw [← hr, F.ge]
theorem ok336_2 (g : Nat) (hg : md g = []) (k0 k1 : V) (p : Int → Bool) (l : List Int) (hl : l.length ≤ 1099511627776) (hp : ∀ x ∈ l, fix Tb md g [I x, ⟨.val, [⟨k0, .sh⟩]⟩, ⟨.val, [⟨k1, .sh⟩]⟩] = some ⟨[B (p x)], [], none⟩) {f0 : Fl} (h0 : inFl f0 = true) :
  fix Tb md 336 [R (row fI l) f0, ⟨.val, [⟨.fn g [k0, k1], .sh⟩]⟩] = some ⟨[B (l.any p)], [], none⟩ := by
 refine fix_fn (fn := ir336) tb_336 rfl rfl (by decide) rfl ?_; simp only [shutArgs, shutS, List.map_cons, List.map_nil, ir336, shut_in h0, List.head?_nil, reduceCtorEq, if_false, sExt, sHello, sAnswer, sEdit, sDeal, sBox, sDialed, sKnown]
 generalize hr : (⟨_, [], none⟩ : Ret) = r
 obtain ⟨ea, hea⟩ := nm (row fI l)
 rw [← hea]
 obtain ⟨v, hv⟩ := nm (ixOf p l 0)
 have hv2 : decide (0 ≤ v) = l.any p := by rw [hv]; exact ixOf_ge p l 0 (by decide)
 rw [← hv2] at hr
 clear hv2
 intro add sub mul arith eq ne lt le gt ge neg conv mn mx not beq len at' ln bd cut app allS isNil mks set o hP F ho
 have c1 : o 377 [R ea (.sp 0 0), ⟨.val, [⟨.fn g [k0, k1], .sh⟩]⟩] = some ⟨[I v], [], none⟩ := by rw [ho, hv, hea]; exact ok377_2 g hg k0 k1 p l hl hp rfl
 cbv
 rw [c1]; cbv
 rw [← hr, F.ge]
theorem ok340 (x lo hi : Int) : fix Tb md 340 [I x, ⟨.val, [⟨.ptr () [.int .i64 lo], .sh⟩]⟩, ⟨.val, [⟨.ptr () [.int .i64 hi], .sh⟩]⟩] = some ⟨[B (!inR x lo hi)], [], none⟩ := by
 refine fix_fn (fn := ir340) tb_340 rfl rfl (by decide) rfl ?_; simp only [shutArgs, shutS, List.map_cons, List.map_nil, ir340, List.head?_nil, reduceCtorEq, if_false, sExt, sHello, sAnswer, sEdit, sDeal, sBox, sDialed, sKnown]
 generalize hr : (⟨_, [], none⟩ : Ret) = r
 obtain ⟨v, hv⟩ := nm (inR x lo hi)
 rw [← hv] at hr
 intro add sub mul arith eq ne lt le gt ge neg conv mn mx not beq len at' ln bd cut app allS isNil mks set o hP F ho
 have c1 : o 232 [I x, I lo, I hi] = some ⟨[B v], [], none⟩ := by rw [ho, hv]; exact ok232 ..
 cbv
 rw [c1]; cbv
 rw [← hr, F.not]
def nums (l : List Int) (lo hi : Int) : Bool := l.all fun x => inR x lo hi
theorem ok233 (l : List Int) (lo hi : Int) (hl : l.length ≤ 1099511627776) {f0 : Fl} (h0 : inFl f0 = true) : fix Tb md 233 [R (row fI l) f0, I lo, I hi] = some ⟨[B (nums l lo hi)], [], none⟩ := by
 rw [show nums l lo hi = !(l.any fun x => !inR x lo hi) by unfold nums; simp [List.all_eq_not_any_not]]
 refine fix_fn (fn := ir233) tb_233 rfl rfl (by decide) rfl ?_; simp only [shutArgs, shutS, List.map_cons, List.map_nil, ir233, shut_in h0, List.head?_nil, reduceCtorEq, if_false, sExt, sHello, sAnswer, sEdit, sDeal, sBox, sDialed, sKnown]
 generalize hr : (⟨_, [], none⟩ : Ret) = r
 obtain ⟨v, hv⟩ := nm (l.any fun x => !inR x lo hi)
 obtain ⟨ea, hea⟩ := nm (row fI l)
 rw [← hv] at hr
 rw [← hea]
 intro add sub mul arith eq ne lt le gt ge neg conv mn mx not beq len at' ln bd cut app allS isNil mks set o hP F ho
 have c1 : o 336 [R ea (.sp 0 0), ⟨.val, [⟨.fn 340 [.ptr () [.int .i64 lo], .ptr () [.int .i64 hi]], .sh⟩]⟩] = some ⟨[B v], [], none⟩ := by rw [ho, hv, hea]; exact ok336_2 340 rfl _ _ _ l hl (fun x _ => ok340 x lo hi) rfl
 cbv
 rw [c1]; cbv
 rw [← hr, F.not]
theorem ok230 (n lo hi : Int) : fix Tb md 230 [I n, I lo, I hi] = some ⟨[B (inR n lo hi)], [], none⟩ := by
 refine fix_fn (fn := ir230) tb_230 rfl rfl (by decide) rfl ?_; simp only [shutArgs, shutS, List.map_cons, List.map_nil, ir230, List.head?_nil, reduceCtorEq, if_false, sExt, sHello, sAnswer, sEdit, sDeal, sBox, sDialed, sKnown]
 generalize hr : (⟨_, [], none⟩ : Ret) = r
 intro add sub mul arith eq ne lt le gt ge neg conv mn mx not beq len at' ln bd cut app allS isNil mks set o hP F ho
 cbv
 repeat' (refine both (fun c => ?_) (fun c => ?_) <;> (try rw [c]) <;> (try cbv))
 all_goals (simp only [F.le, F.ge, F.lt, F.gt] at *; subst hr; (try simp_all [inR]) <;> (try omega))
theorem ok231 (l : List Int) (hl : l.length ≤ 1099511627776) {f0 : Fl} (h0 : inFl f0 = true) : fix Tb md 231 [R (row fI l) f0] = some ⟨[B (bytes l)], [], none⟩ := by
 refine fix_fn (fn := ir231) tb_231 rfl rfl (by decide) rfl ?_; simp only [shutArgs, shutS, List.map_cons, List.map_nil, ir231, shut_in h0, List.head?_nil, reduceCtorEq, if_false, sExt, sHello, sAnswer, sEdit, sDeal, sBox, sDialed, sKnown]
 generalize hr : (⟨_, [], none⟩ : Ret) = r
 obtain ⟨ea, hea⟩ := nm (row fI l)
 rw [← hea]
 intro add sub mul arith eq ne lt le gt ge neg conv mn mx not beq len at' ln bd cut app allS isNil mks set o hP F ho
 have la := F.len_at hea
 cbv
 refine loop_ind hP (σ := List Int × List Int × Int) (fun s => [(0, R ea .sh), (2, B false), (3, I s.2.2)]) (fun s => At s.2.2 s.1.length ∧ l = s.1 ++ s.2.1 ∧ bytes s.1 = true) (fun s => s.2.1.length) ([], l, 0) rfl ⟨rfl, rfl, rfl⟩ ?_
 rintro ⟨pre, suf, i⟩ ⟨hi, hl', hb⟩ ih
 simp only at hi hl' hb ih
 cbv
 cases suf with
 | nil =>
  rw [F.lt_f hi la (by simp [hl'])]; cbv
  rw [← hr, hl']; simp [hb]
 | cons x suf =>
  rw [F.lt_t hi la (by simp [hl'])]; cbv
  obtain ⟨ix, hix⟩ := nm (pre.length * 1)
  rw [show at' 1 ea i = some (ix, [.int .i64 x]) by rw [hix]; exact F.get hi hea hl' (fun _ => rfl) (by decide)]; cbv
  obtain ⟨v, hv⟩ := nm (inR x 0 255)
  rw [show o 230 [I x, I 0, I 255] = some ⟨[B v], [], none⟩ by rw [ho, hv]; exact ok230 x 0 255]; cbv
  refine both (fun c => ?_) (fun c => ?_) <;> rw [c] <;> cbv
  ·rw [← hr, hl']
   rw [F.not] at c
   simp [bytes] at *
   simp_all
  ·rw [F.not] at c
   simp at c
   refine ih (pre ++ [x], suf, add .i64 i 1) ⟨at_len (F.inc hi (by simp [hl'] at hl; omega)) (by simp), by simp [hl'], ?_⟩ (by simp)
   simp [bytes] at *
   simp_all
def tagP (t : Int) (e : Ext) : Bool := decide (e.tag = t)
def extOf (l : List Ext) (t : Int) : Int := ixOf (tagP t) l 0
theorem ixOf_pre {α : Type} {p : α → Bool} : ∀ {pre : List α} {x : α} {suf : List α} {i : Int}, p x = true → (pre.any p = false → ixOf p (pre ++ x :: suf) i = i + (pre.length : Int)) ∧ (pre.any p = true → ixOf p (pre ++ x :: suf) i < i + (pre.length : Int))
 | [], x, suf, i, hx => by simp [ixOf, hx]
 | y :: pre, x, suf, i, hx => by
  obtain ⟨h1, h2⟩ := ixOf_pre (pre := pre) (suf := suf) (i := i + 1) hx
  rw [List.cons_append, List.any_cons]
  unfold ixOf
  by_cases hy : p y = true
  ·rw [if_pos hy, hy]; simp; omega
  ·rw [if_neg hy]; simp at hy; rw [hy, Bool.false_or]
   constructor
   ·intro q; rw [h1 q]; simp; omega
   ·intro q; have := h2 q; simp; omega
theorem ixOf_lt {α : Type} {p : α → Bool} {pre : List α} {x : α} {suf : List α} {i : Int} (hx : p x = true) (hi : At i pre.length) : decide (ixOf p (pre ++ x :: suf) 0 < i) = pre.any p := by
 unfold At at hi
 obtain ⟨h1, h2⟩ := ixOf_pre (pre := pre) (suf := suf) (i := 0) hx
 cases h : pre.any p with
 | false => rw [h1 h, hi]; simp
 | true => have := h2 h; rw [hi]; simp; omega
theorem ok286 (l : List Ext) (t : Int) (hl : l.length ≤ 1099511627776) {f0 : Fl} (h0 : inFl f0 = true) : fix Tb md 286 [R (row fExt l) f0, I t] = some ⟨[I (extOf l t)], [], none⟩ := by
 obtain ⟨T, hT⟩ := nm (extOf l t)
 rw [← hT]
 generalize hr : (⟨_, [], none⟩ : Ret) = r
 obtain ⟨ea, hea⟩ := nm (row fExt l)
 rw [← hea]
 refine fix_fn2 (fn := ir286) tb_286 rfl rfl (by decide) rfl ?_; intro Q hQ; simp only [shutArgs, shutS, List.map_cons, List.map_nil, ir286, shut_in h0, List.head?_nil, reduceCtorEq, if_false, sExt, sHello, sAnswer, sEdit, sDeal, sBox, sDialed, sKnown]
 intro add sub mul arith eq ne lt le gt ge neg conv mn mx not beq len at' ln bd cut app allS isNil mks set o hP F ho
 have la := F.len_at hea
 cbv
 refine loop_ind2 hP (σ := List Ext × List Ext × Int) (fun s => [(0, R ea .sh), (1, I t), (4, I 0), (5, I s.2.2)]) (fun s => At s.2.2 s.2.1.length ∧ l = s.2.1 ++ s.1 ∧ (s.2.1.any (tagP t)) = false) (fun s => s.1.length) (l, [], 0) rfl ⟨rfl, rfl, rfl⟩ ?_
 intro c1 Q1 hc1 hQ1
 rintro ⟨suf, pre, i⟩ ⟨hi, hl', hb⟩ ih
 simp only at hi hl' hb ih
 cbv
 cases suf with
 | nil =>
  rw [F.lt_f hi la (by simp [hl'])]; cbv
  rw [hQ1]; cbv
  rw [hQ]; cbv
  rw [← hr, hT, show extOf l t = -1 from ixOf_none (by rw [hl', List.append_nil]; exact hb)]
 | cons x suf =>
  obtain ⟨v, hv⟩ := nm (tagP t x)
  have hT' : v = true → T = i := fun q => by
   rw [hT, hl']; unfold At at hi
   rw [show extOf (pre ++ x :: suf) t = 0 + (pre.length : Int) from (ixOf_pre (hv ▸ q)).1 hb, hi]; simp
  rw [F.lt_t hi la (by simp [hl'])]; cbv
  obtain ⟨ix, hix⟩ := nm (pre.length * 2)
  obtain ⟨e1, he1⟩ := nm (row fI x.body)
  rw [show at' 2 ea i = some (ix, [.int .i64 x.tag, .row () e1]) by rw [hix, he1]; exact F.get hi hea hl' (fun _ => rfl) (by decide)]; cbv
  rw [show eq x.tag t = v by rw [F.eq, hv]; rfl]; cbv
  refine both (fun d => ?_) (fun d => ?_) <;> rw [d] <;> cbv
  ·rw [hQ1]; cbv
   rw [hQ]; cbv
   rw [← hr, hT' d]
  ·refine ih (suf, pre ++ [x], add .i64 i 1) ⟨at_len (F.inc hi (by simp [hl'] at hl; omega)) (by simp), by simp [hl'], ?_⟩ (by simp)
   simp only
   rw [List.any_append, hb, List.any_cons, ← hv, d]; rfl
def exOk : List Ext → List Ext → Bool
 | _, [] => true
 | pre, x :: suf => inR x.tag 0 255 && !decide (4 < x.body.length) && bytes x.body && !(pre.any (tagP x.tag)) && exOk (pre ++ [x]) suf
def areEx (l : List Ext) : Bool := exOk [] l && decide (l.length ≤ 6)
theorem ok271 (l : List Ext) (hl : l.length ≤ 1099511627776) (w : ∀ y ∈ l, y.body.length ≤ 1099511627776) {f0 : Fl} (h0 : inFl f0 = true) : fix Tb md 271 [R (row fExt l) f0] = some ⟨[B (areEx l)], [], none⟩ := by
 obtain ⟨T, hT⟩ := nm (exOk [] l)
 rw [show areEx l = (T && decide (l.length ≤ 6)) by rw [hT]; rfl]
 generalize hr : (⟨_, [], none⟩ : Ret) = r
 obtain ⟨ea, hea⟩ := nm (row fExt l)
 rw [← hea]
 refine fix_fn2 (fn := ir271) tb_271 rfl rfl (by decide) rfl ?_; intro Q hQ; simp only [shutArgs, shutS, List.map_cons, List.map_nil, ir271, shut_in h0, List.head?_nil, reduceCtorEq, if_false, sExt, sHello, sAnswer, sEdit, sDeal, sBox, sDialed, sKnown]
 intro add sub mul arith eq ne lt le gt ge neg conv mn mx not beq len at' ln bd cut app allS isNil mks set o hP F ho
 have la := F.len_at hea
 have h6 : le (len ea) 6 = decide (l.length ≤ 6) := F.le_n la rfl
 cbv
 refine loop_ind2 hP (σ := List Ext × List Ext × Int) (fun s => [(0, R ea .sh), (2, B false), (3, I s.2.2)]) (fun s => At s.2.2 s.2.1.length ∧ l = s.2.1 ++ s.1 ∧ exOk s.2.1 s.1 = T) (fun s => s.1.length) (l, [], 0) rfl ⟨rfl, rfl, hT.symm⟩ ?_
 intro c1 Q1 hc1 hQ1
 rintro ⟨suf, pre, i⟩ ⟨hi, hl', hb⟩ ih
 simp only at hi hl' hb ih
 cbv
 cases suf with
 | nil =>
  rw [F.lt_f hi la (by simp [hl'])]; cbv
  rw [hQ1]; cbv
  rw [hQ]; cbv
  rw [h6, ← hr, ← hb]; rfl
 | cons x suf =>
  obtain ⟨ix, hix⟩ := nm (pre.length * 2)
  obtain ⟨e1, he1⟩ := nm (row fI x.body)
  have l1 := F.len_at he1
  have hx := w x (by rw [hl']; simp)
  have p0 : at' 2 ea i = some (ix, [.int .i64 x.tag, .row () e1]) := by rw [hix, he1]; exact F.get hi hea hl' (fun _ => rfl) (by decide)
  obtain ⟨b1, hb1⟩ := nm (inR x.tag 0 255)
  obtain ⟨b2, hb2⟩ := nm (decide (4 < x.body.length))
  obtain ⟨b3, hb3⟩ := nm (bytes x.body)
  obtain ⟨b4, hb4⟩ := nm (pre.any (tagP x.tag))
  obtain ⟨v, hv⟩ := nm (extOf l x.tag)
  have g4 : gt (len e1) 4 = b2 := by rw [hb2]; exact F.gt_n l1 rfl
  have c1 : o 230 [I x.tag, I 0, I 255] = some ⟨[B b1], [], none⟩ := by rw [ho, hb1]; exact ok230 ..
  have c3 : o 231 [R e1 (.sp 0 0)] = some ⟨[B b3], [], none⟩ := by rw [ho, hb3, he1]; exact ok231 _ hx rfl
  have c4 : o 286 [R ea (.sp 0 0), I x.tag] = some ⟨[I v], [], none⟩ := by rw [ho, hv, hea]; exact ok286 _ _ hl rfl
  have g5 : lt v i = b4 := by rw [F.lt, hv, hb4, hl']; exact ixOf_lt (by simp [tagP]) hi
  have hT' : T = (b1 && !b2 && b3 && !b4 && exOk (pre ++ [x]) suf) := by rw [← hb, hb1, hb2, hb3, hb4]; rfl
  rw [F.lt_t hi la (by simp [hl'])]; cbv
  rw [p0]; cbv
  rw [c1]; cbv
  refine both (fun d1 => ?_) (fun d1 => ?_) <;> rw [d1] <;> cbv
  ·rw [hQ1]; cbv
   rw [hQ]; cbv
   rw [← hr, show T = false by rw [hT', F.not_t d1]; rfl]; rfl
  rw [p0]; cbv
  rw [g4]; cbv
  refine both (fun d2 => ?_) (fun d2 => ?_) <;> rw [d2] <;> cbv
  ·rw [hQ1]; cbv
   rw [hQ]; cbv
   rw [← hr, show T = false by rw [hT', d2]; simp]; rfl
  rw [p0]; cbv
  rw [c3]; cbv
  refine both (fun d3 => ?_) (fun d3 => ?_) <;> rw [d3] <;> cbv
  ·rw [hQ1]; cbv
   rw [hQ]; cbv
   rw [← hr, show T = false by rw [hT', F.not_t d3]; simp]; rfl
  rw [p0]; cbv
  rw [c4]; cbv
  rw [g5]; cbv
  refine both (fun d4 => ?_) (fun d4 => ?_) <;> rw [d4] <;> cbv
  ·rw [hQ1]; cbv
   rw [hQ]; cbv
   rw [← hr, show T = false by rw [hT', d4]; simp]; rfl
  refine ih (suf, pre ++ [x], add .i64 i 1) ⟨at_len (F.inc hi (by simp [hl'] at hl; omega)) (by simp), by simp [hl'], ?_⟩ (by simp)
  rw [hT', F.not_f d1, d2, F.not_f d3, d4]; simp
theorem ok351_0 (g : Nat) (hg : md g = []) (p : Ext → Bool) (l : List Ext) (hl : l.length ≤ 1099511627776) (hp : ∀ x ∈ l, fix Tb md g [sExt x.tag (row fI x.body) (.sp 0 1)] = some ⟨[B (p x)], [], none⟩) {f0 : Fl} (h0 : inFl f0 = true) :
  fix Tb md 351 [R (row fExt l) f0, ⟨.val, [⟨.fn g [], .sh⟩]⟩] = some ⟨[I (ixOf p l 0)], [], none⟩ := by
 generalize hm : md = m at hg hp ⊢
 refine fix_fn (fn := ir351) tb_351 rfl rfl (by decide) rfl ?_; simp only [shutArgs, shutS, List.map_cons, List.map_nil, ir351, shut_in h0, List.head?_nil, reduceCtorEq, if_false, sExt, sHello, sAnswer, sEdit, sDeal, sBox, sDialed, sKnown]
 generalize hr : (⟨_, [], none⟩ : Ret) = r
 obtain ⟨ea, hea⟩ := nm (row fExt l)
 rw [← hea]
 intro add sub mul arith eq ne lt le gt ge neg conv mn mx not beq len at' ln bd cut app allS isNil mks set o hP F ho
 have la := F.len_at hea
 cbv
 refine loop_ind hP (σ := List Ext × List Ext × Int × Option Int) (fun s => match s.2.2.2 with | none => [(0, R ea .sh), (1, ⟨.val, [⟨.fn g [], .sh⟩]⟩), (4, I 0), (7, I (len ea)), (8, I s.2.2.1)] | some j => [(0, R ea .sh), (1, ⟨.val, [⟨.fn g [], .sh⟩]⟩), (4, I 0), (5, I j), (7, I (len ea)), (8, I s.2.2.1)])
  (fun s => At s.2.2.1 s.2.1.length ∧ l = s.2.1 ++ s.1 ∧ ixOf p s.1 (s.2.1.length : Int) = ixOf p l 0) (fun s => s.1.length) (l, [], 0, none) rfl ⟨rfl, rfl, rfl⟩ ?_
 rintro ⟨suf, pre, i, j⟩ ⟨hi, hl', hx⟩ ih
 simp only at hi hl' hx ih
 have hi' : i = (pre.length : Int) := hi
 rw [← hi'] at hx
 cases j <;> cbv <;> (
  cases suf with
  | nil =>
   rw [F.lt_f hi la (by simp [hl'])]; cbv
   rw [← hr, ← hx]; rfl
  | cons x suf =>
   rw [F.lt_t hi la (by simp [hl'])]; cbv
   obtain ⟨e1, he1⟩ := nm (row fI x.body)
   obtain ⟨ix, hix⟩ := nm (pre.length * 2)
   rw [show at' 2 ea i = some (ix, [.int .i64 x.tag, .row () e1]) by rw [hix, he1]; exact F.get hi hea hl' (fun _ => rfl) (by decide)]; cbv
   obtain ⟨v, hv⟩ := nm (p x)
   have c1 : o g [sExt x.tag e1 (.sp 0 1)] = some ⟨[B v], [], none⟩ := by rw [ho, hv, he1]; exact hp x (by rw [hl']; simp)
   rw [hg]; cbv
   rw [c1]; cbv
   have hx1 : ixOf p (x :: suf) i = if p x = true then i else ixOf p suf (i + 1) := rfl
   rw [hx1] at hx
   refine both (fun c => ?_) (fun c => ?_) <;> rw [c] <;> cbv
   ·rw [← hv, if_pos c] at hx
    rw [← hr, ← hx]
   ·rw [← hv, if_neg (by simp [c])] at hx
    refine ih (suf, pre ++ [x], add .i64 i 1, some i) ⟨at_len (F.inc hi (by simp [hl'] at hl; omega)) (by simp), by simp [hl'], ?_⟩ (by simp)
    rw [← hx, hi']
    simp)
theorem ok351_1 (g : Nat) (hg : md g = []) (k0 : V) (p : Ext → Bool) (l : List Ext) (hl : l.length ≤ 1099511627776) (hp : ∀ x ∈ l, fix Tb md g [sExt x.tag (row fI x.body) (.sp 0 1), ⟨.val, [⟨k0, .sh⟩]⟩] = some ⟨[B (p x)], [], none⟩) {f0 : Fl} (h0 : inFl f0 = true) :
  fix Tb md 351 [R (row fExt l) f0, ⟨.val, [⟨.fn g [k0], .sh⟩]⟩] = some ⟨[I (ixOf p l 0)], [], none⟩ := by
 generalize hm : md = m at hg hp ⊢
 refine fix_fn (fn := ir351) tb_351 rfl rfl (by decide) rfl ?_; simp only [shutArgs, shutS, List.map_cons, List.map_nil, ir351, shut_in h0, List.head?_nil, reduceCtorEq, if_false, sExt, sHello, sAnswer, sEdit, sDeal, sBox, sDialed, sKnown]
 generalize hr : (⟨_, [], none⟩ : Ret) = r
 obtain ⟨ea, hea⟩ := nm (row fExt l)
 rw [← hea]
 intro add sub mul arith eq ne lt le gt ge neg conv mn mx not beq len at' ln bd cut app allS isNil mks set o hP F ho
 have la := F.len_at hea
 cbv
 refine loop_ind hP (σ := List Ext × List Ext × Int × Option Int) (fun s => match s.2.2.2 with | none => [(0, R ea .sh), (1, ⟨.val, [⟨.fn g [k0], .sh⟩]⟩), (4, I 0), (7, I (len ea)), (8, I s.2.2.1)] | some j => [(0, R ea .sh), (1, ⟨.val, [⟨.fn g [k0], .sh⟩]⟩), (4, I 0), (5, I j), (7, I (len ea)), (8, I s.2.2.1)])
  (fun s => At s.2.2.1 s.2.1.length ∧ l = s.2.1 ++ s.1 ∧ ixOf p s.1 (s.2.1.length : Int) = ixOf p l 0) (fun s => s.1.length) (l, [], 0, none) rfl ⟨rfl, rfl, rfl⟩ ?_
 rintro ⟨suf, pre, i, j⟩ ⟨hi, hl', hx⟩ ih
 simp only at hi hl' hx ih
 have hi' : i = (pre.length : Int) := hi
 rw [← hi'] at hx
 cases j <;> cbv <;> (
  cases suf with
  | nil =>
   rw [F.lt_f hi la (by simp [hl'])]; cbv
   rw [← hr, ← hx]; rfl
  | cons x suf =>
   rw [F.lt_t hi la (by simp [hl'])]; cbv
   obtain ⟨e1, he1⟩ := nm (row fI x.body)
   obtain ⟨ix, hix⟩ := nm (pre.length * 2)
   rw [show at' 2 ea i = some (ix, [.int .i64 x.tag, .row () e1]) by rw [hix, he1]; exact F.get hi hea hl' (fun _ => rfl) (by decide)]; cbv
   obtain ⟨v, hv⟩ := nm (p x)
   have c1 : o g [sExt x.tag e1 (.sp 0 1), ⟨.val, [⟨k0, .sh⟩]⟩] = some ⟨[B v], [], none⟩ := by rw [ho, hv, he1]; exact hp x (by rw [hl']; simp)
   rw [hg]; cbv
   rw [c1]; cbv
   have hx1 : ixOf p (x :: suf) i = if p x = true then i else ixOf p suf (i + 1) := rfl
   rw [hx1] at hx
   refine both (fun c => ?_) (fun c => ?_) <;> rw [c] <;> cbv
   ·rw [← hv, if_pos c] at hx
    rw [← hr, ← hx]
   ·rw [← hv, if_neg (by simp [c])] at hx
    refine ih (suf, pre ++ [x], add .i64 i 1, some i) ⟨at_len (F.inc hi (by simp [hl'] at hl; omega)) (by simp), by simp [hl'], ?_⟩ (by simp)
    rw [← hx, hi']
    simp)
theorem ok351_2 (g : Nat) (hg : md g = []) (k0 k1 : V) (p : Ext → Bool) (l : List Ext) (hl : l.length ≤ 1099511627776) (hp : ∀ x ∈ l, fix Tb md g [sExt x.tag (row fI x.body) (.sp 0 1), ⟨.val, [⟨k0, .sh⟩]⟩, ⟨.val, [⟨k1, .sh⟩]⟩] = some ⟨[B (p x)], [], none⟩) {f0 : Fl} (h0 : inFl f0 = true) :
  fix Tb md 351 [R (row fExt l) f0, ⟨.val, [⟨.fn g [k0, k1], .sh⟩]⟩] = some ⟨[I (ixOf p l 0)], [], none⟩ := by
 generalize hm : md = m at hg hp ⊢
 refine fix_fn (fn := ir351) tb_351 rfl rfl (by decide) rfl ?_; simp only [shutArgs, shutS, List.map_cons, List.map_nil, ir351, shut_in h0, List.head?_nil, reduceCtorEq, if_false, sExt, sHello, sAnswer, sEdit, sDeal, sBox, sDialed, sKnown]
 generalize hr : (⟨_, [], none⟩ : Ret) = r
 obtain ⟨ea, hea⟩ := nm (row fExt l)
 rw [← hea]
 intro add sub mul arith eq ne lt le gt ge neg conv mn mx not beq len at' ln bd cut app allS isNil mks set o hP F ho
 have la := F.len_at hea
 cbv
 refine loop_ind hP (σ := List Ext × List Ext × Int × Option Int) (fun s => match s.2.2.2 with | none => [(0, R ea .sh), (1, ⟨.val, [⟨.fn g [k0, k1], .sh⟩]⟩), (4, I 0), (7, I (len ea)), (8, I s.2.2.1)] | some j => [(0, R ea .sh), (1, ⟨.val, [⟨.fn g [k0, k1], .sh⟩]⟩), (4, I 0), (5, I j), (7, I (len ea)), (8, I s.2.2.1)])
  (fun s => At s.2.2.1 s.2.1.length ∧ l = s.2.1 ++ s.1 ∧ ixOf p s.1 (s.2.1.length : Int) = ixOf p l 0) (fun s => s.1.length) (l, [], 0, none) rfl ⟨rfl, rfl, rfl⟩ ?_
 rintro ⟨suf, pre, i, j⟩ ⟨hi, hl', hx⟩ ih
 simp only at hi hl' hx ih
 have hi' : i = (pre.length : Int) := hi
 rw [← hi'] at hx
 cases j <;> cbv <;> (
  cases suf with
  | nil =>
   rw [F.lt_f hi la (by simp [hl'])]; cbv
   rw [← hr, ← hx]; rfl
  | cons x suf =>
   rw [F.lt_t hi la (by simp [hl'])]; cbv
   obtain ⟨e1, he1⟩ := nm (row fI x.body)
   obtain ⟨ix, hix⟩ := nm (pre.length * 2)
   rw [show at' 2 ea i = some (ix, [.int .i64 x.tag, .row () e1]) by rw [hix, he1]; exact F.get hi hea hl' (fun _ => rfl) (by decide)]; cbv
   obtain ⟨v, hv⟩ := nm (p x)
   have c1 : o g [sExt x.tag e1 (.sp 0 1), ⟨.val, [⟨k0, .sh⟩]⟩, ⟨.val, [⟨k1, .sh⟩]⟩] = some ⟨[B v], [], none⟩ := by rw [ho, hv, he1]; exact hp x (by rw [hl']; simp)
   rw [hg]; cbv
   rw [c1]; cbv
   have hx1 : ixOf p (x :: suf) i = if p x = true then i else ixOf p suf (i + 1) := rfl
   rw [hx1] at hx
   refine both (fun c => ?_) (fun c => ?_) <;> rw [c] <;> cbv
   ·rw [← hv, if_pos c] at hx
    rw [← hr, ← hx]
   ·rw [← hv, if_neg (by simp [c])] at hx
    refine ih (suf, pre ++ [x], add .i64 i 1, some i) ⟨at_len (F.inc hi (by simp [hl'] at hl; omega)) (by simp), by simp [hl'], ?_⟩ (by simp)
    rw [← hx, hi']
    simp)
theorem ok352 (e : Ext) (t : Int) {f0 : Fl} (h0 : inFl f0 = true) : fix Tb md 352 [sExt e.tag (row fI e.body) f0, ⟨.val, [⟨.ptr () [.int .i64 t], .sh⟩]⟩] = some ⟨[B (tagP t e)], [], none⟩ := by
 generalize hr : (⟨_, [], none⟩ : Ret) = r
 obtain ⟨ey, hey⟩ := nm (row fI e.body)
 rw [← hey]
 refine fix_fn2 (fn := ir352) tb_352 rfl rfl (by decide) rfl ?_; intro Q hQ; simp only [shutArgs, shutS, List.map_cons, List.map_nil, ir352, shut_in h0, List.head?_nil, reduceCtorEq, if_false, sExt, sHello, sAnswer, sEdit, sDeal, sBox, sDialed, sKnown]
 intro add sub mul arith eq ne lt le gt ge neg conv mn mx not beq len at' ln bd cut app allS isNil mks set o hP F ho
 cbv
 rw [hQ]; cbv
 rw [← hr, F.eq]; rfl
theorem ok290 (l : List Ext) (t : Int) (hl : l.length ≤ 1099511627776) {f0 : Fl} (h0 : inFl f0 = true) : fix Tb md 290 [R (row fExt l) f0, I t] = some ⟨[I (extOf l t)], [], none⟩ := by
 obtain ⟨T, hT⟩ := nm (extOf l t)
 rw [← hT]
 generalize hr : (⟨_, [], none⟩ : Ret) = r
 obtain ⟨ea, hea⟩ := nm (row fExt l)
 rw [← hea]
 refine fix_fn2 (fn := ir290) tb_290 rfl rfl (by decide) rfl ?_; intro Q hQ; simp only [shutArgs, shutS, List.map_cons, List.map_nil, ir290, shut_in h0, List.head?_nil, reduceCtorEq, if_false, sExt, sHello, sAnswer, sEdit, sDeal, sBox, sDialed, sKnown]
 intro add sub mul arith eq ne lt le gt ge neg conv mn mx not beq len at' ln bd cut app allS isNil mks set o hP F ho
 have c1 : o 351 [R ea (.sp 0 0), ⟨.val, [⟨.fn 352 [.ptr () [.int .i64 t]], .sh⟩]⟩] = some ⟨[I T], [], none⟩ := by rw [ho, hT, hea]; exact ok351_1 352 rfl _ (tagP t) l hl (fun x _ => ok352 x t rfl) rfl
 cbv
 rw [c1]; cbv
 rw [hQ]; cbv
 exact congrArg some hr
theorem ok258 (l : List Ext) (hl : l.length ≤ 1099511627776) (w : ∀ y ∈ l, y.body.length ≤ 1099511627776) {f0 : Fl} (h0 : inFl f0 = true) : fix Tb md 258 [R (row fExt l) f0] = some ⟨[B (areEx l)], [], none⟩ := by
 obtain ⟨T, hT⟩ := nm (exOk [] l)
 rw [show areEx l = (T && decide (l.length ≤ 6)) by rw [hT]; rfl]
 generalize hr : (⟨_, [], none⟩ : Ret) = r
 obtain ⟨ea, hea⟩ := nm (row fExt l)
 rw [← hea]
 refine fix_fn2 (fn := ir258) tb_258 rfl rfl (by decide) rfl ?_; intro Q hQ; simp only [shutArgs, shutS, List.map_cons, List.map_nil, ir258, shut_in h0, List.head?_nil, reduceCtorEq, if_false, sExt, sHello, sAnswer, sEdit, sDeal, sBox, sDialed, sKnown]
 intro add sub mul arith eq ne lt le gt ge neg conv mn mx not beq len at' ln bd cut app allS isNil mks set o hP F ho
 have la := F.len_at hea
 have h6 : le (len ea) 6 = decide (l.length ≤ 6) := F.le_n la rfl
 cbv
 refine loop_ind2 hP (σ := List Ext × List Ext × Int × Option (Int × Int × List (List V))) (fun s => match s.2.2.2 with
   | none => [(0, R ea .sh), (2, B false), (5, R ea .sh), (6, I (len ea)), (7, I s.2.2.1)]
   | some j => [(0, R ea .sh), (2, B false), (3, I j.1), (4, ⟨.ptr 45 0, []⟩), (5, R ea .sh), (6, I (len ea)), (7, I s.2.2.1), (45, ⟨.box (), [⟨.int .i64 j.2.1, .sc⟩, ⟨.row () j.2.2, .sh⟩]⟩)]) (fun s => At s.2.2.1 s.2.1.length ∧ l = s.2.1 ++ s.1 ∧ exOk s.2.1 s.1 = T) (fun s => s.1.length) (l, [], 0, none) rfl ⟨rfl, rfl, hT.symm⟩ ?_
 intro c1 Q1 hc1 hQ1
 rintro ⟨suf, pre, i, j⟩ ⟨hi, hl', hb⟩ ih
 simp only at hi hl' hb ih
 rcases j with _ | ⟨j3, j4, j5⟩
 all_goals
  cbv
  cases suf with
  | nil =>
   rw [F.lt_f hi la (by simp [hl'])]; cbv
   rw [hQ1]; cbv
   rw [hQ]; cbv
   rw [h6, ← hr, ← hb]; rfl
  | cons x suf =>
   obtain ⟨ix, hix⟩ := nm (pre.length * 2)
   obtain ⟨e1, he1⟩ := nm (row fI x.body)
   have l1 := F.len_at he1
   have hx := w x (by rw [hl']; simp)
   have hpre : pre.length ≤ 1099511627776 := by rw [hl'] at hl; simp at hl; omega
   have p0 : at' 2 ea i = some (ix, [.int .i64 x.tag, .row () e1]) := by rw [hix, he1]; exact F.get hi hea hl' (fun _ => rfl) (by decide)
   obtain ⟨b1, hb1⟩ := nm (inR x.tag 0 255)
   obtain ⟨b2, hb2⟩ := nm (decide (4 < x.body.length))
   obtain ⟨b3, hb3⟩ := nm (bytes x.body)
   obtain ⟨b4, hb4⟩ := nm (pre.any (tagP x.tag))
   obtain ⟨ep, hep⟩ := nm (row fExt pre)
   obtain ⟨v, hv⟩ := nm (extOf pre x.tag)
   have g4 : gt (len e1) 4 = b2 := by rw [hb2]; exact F.gt_n l1 rfl
   have c1 : o 232 [I x.tag, I 0, I 255] = some ⟨[B b1], [], none⟩ := by rw [ho, hb1]; exact ok232 ..
   have c3 : o 233 [R e1 (.sp 0 0), I 0, I 255] = some ⟨[B b3], [], none⟩ := by rw [ho, hb3, he1]; exact ok233 _ _ _ hx rfl
   have c4 : o 290 [R ep (.sp 0 0), I x.tag] = some ⟨[I v], [], none⟩ := by rw [ho, hv, hep]; exact ok290 _ _ hpre rfl
   have g5 : ge v 0 = b4 := by rw [F.ge, hv, hb4]; exact ixOf_ge (tagP x.tag) pre 0 (by decide)
   have hT' : T = (b1 && !b2 && b3 && !b4 && exOk (pre ++ [x]) suf) := by rw [← hb, hb1, hb2, hb3, hb4]; rfl
   obtain ⟨n, hn⟩ := nm (pre.length)
   have q1 : bd (ln ea) i = some n := by rw [F.ln' hea, hn]; exact F.bd' hi (by rw [hl']; simp)
   have q2 : cut 2 ea n 0 = some ep := by rw [F.cut' hea (fun _ => rfl), hep, hl', hn]; simp
   rw [F.lt_t hi la (by simp [hl'])]; cbv
   rw [p0]; cbv
   rw [c1]; cbv
   refine both (fun d1 => ?_) (fun d1 => ?_) <;> rw [d1] <;> cbv
   ·rw [hQ1]; cbv
    rw [hQ]; cbv
    rw [← hr, show T = false by rw [hT', F.not_t d1]; rfl]; rfl
   rw [q1]; cbv
   rw [q2]; cbv
   rw [c4]; cbv
   rw [g5]; cbv
   refine both (fun d4 => ?_) (fun d4 => ?_) <;> rw [d4] <;> cbv
   ·rw [hQ1]; cbv
    rw [hQ]; cbv
    rw [← hr, show T = false by rw [hT', d4]; simp]; rfl
   rw [g4]; cbv
   refine both (fun d2 => ?_) (fun d2 => ?_) <;> rw [d2] <;> cbv
   ·rw [hQ1]; cbv
    rw [hQ]; cbv
    rw [← hr, show T = false by rw [hT', d2]; simp]; rfl
   rw [c3]; cbv
   refine both (fun d3 => ?_) (fun d3 => ?_) <;> rw [d3] <;> cbv
   ·rw [hQ1]; cbv
    rw [hQ]; cbv
    rw [← hr, show T = false by rw [hT', F.not_t d3]; simp]; rfl
   refine ih (suf, pre ++ [x], add .i64 i 1, some (i, x.tag, e1)) ⟨at_len (F.inc hi (by omega)) (by simp), by simp [hl'], ?_⟩ (by simp)
   rw [hT', F.not_f d1, d2, F.not_f d3, d4]; simp
end Go.Vm
