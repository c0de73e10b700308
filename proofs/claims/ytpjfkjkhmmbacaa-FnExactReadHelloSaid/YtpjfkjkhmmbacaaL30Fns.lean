/- What the functions answer. -/
import Derived.Test.YtpjfkjkhmmbacaaL30Tab
set_option maxHeartbeats 4000000
set_option maxRecDepth 10000
set_option linter.unusedVariables false
set_option linter.unusedSimpArgs false
namespace Go.Vm

/-- a number so many places behind k -/
def AtK (x k : Int) (n : Nat) : Prop := x = k + (n : Int)
def Lim (k : Int) (n : Nat) : Prop := 0 ≤ k ∧ k + (n : Int) ≤ 4611686018427387904
theorem AtK.zero {k : Int} : AtK k k 0 := by unfold AtK; simp
theorem AtK.one {x k : Int} {n : Nat} (h : AtK x k n) : AtK (x + 1) k (n + 1) := by unfold AtK at *; omega
theorem AtK.plus {x k : Int} {n m : Nat} (h : AtK x k n) : AtK (x + (m : Int)) k (n + m) := by unfold AtK at *; omega
theorem AtK.eq {x k : Int} {n m : Nat} (h : AtK x k n) (e : n = m) : AtK x k m := e ▸ h
theorem AtK.same {x k : Int} {n : Nat} (h : AtK x k n) : x = k + (n : Int) := h
theorem AtK.lim {x k : Int} {n m q : Nat} (h : AtK x k n) (l : Lim k q) (e : n + m ≤ q) : Lim x m := by unfold AtK Lim at *; omega
theorem Lim.nn {k : Int} {n : Nat} (l : Lim k n) : 0 ≤ k := l.1
theorem AtK.inc {x k : Int} {n q : Nat} (h : AtK x k n) (l : Lim k q) (e : n ≤ q) : IntKind.wrap .i64 (x + 1) = x + 1 := by unfold AtK Lim at *; exact wrap64 (by omega) (by omega)
theorem Lim.le {k : Int} {n m : Nat} (l : Lim k n) (e : m ≤ n) : Lim k m := by unfold Lim at *; omega
theorem sum_le {α : Type} {c : α → Nat} {B : Nat} : ∀ {l : List α}, (∀ y ∈ l, c y ≤ B) → (l.map c).sum ≤ l.length * B
  | [], _ => by simp
  | x :: l, h => by
    have h1 := h x (by simp)
    have h2 := sum_le (l := l) (fun y hy => h y (by simp [hy]))
    simp only [List.map_cons, List.sum_cons, List.length_cons, Nat.succ_mul]
    omega
theorem Lim.of1 {n : Nat} (h : n ≤ 4611686018427387903) : Lim 1 n := ⟨by decide, by omega⟩
/-- numbers written into a row from k on -/
def mI : List Int → Int → List Int
  | [], _ => []
  | _ :: l, k => k :: mI l (k + 1)
theorem mI_len : ∀ (l : List Int) (k : Int), (mI l k).length = l.length
  | [], _ => rfl
  | _ :: l, k => by simp [mI, mI_len l (k + 1)]
theorem mI_app : ∀ (a b : List Int) (k x : Int), AtK x k a.length → mI (a ++ b) k = mI a k ++ mI b x
  | [], b, k, x, h => by simp [AtK] at h; subst h; simp [mI]
  | y :: a, b, k, x, h => by
    simp only [List.cons_append, mI]
    rw [mI_app a b (k + 1) x (by unfold AtK at *; simp at h; omega)]
theorem set_fld {α : Type} {pre suf : List α} {f : α → List V} {k : Nat} {x y : α} {j : Nat} {v : V} {ix : Nat} (hk : ∀ a, (f a).length = k) (hj : j < k) (hy : f y = (f x).set j v) (hix : ix = pre.length * k) : setFlat (row f (pre ++ x :: suf)) (ix + j) [v] = some (row f (pre ++ y :: suf)) := by
  have := set_raw (k := k) [v] j (row f pre) (f x) (row f suf) (by intro a ha; obtain ⟨b, _, rfl⟩ := List.mem_map.1 ha; exact hk b) (hk x) (by simp; omega)
  rw [row_len] at this
  subst hix
  rw [show row f (pre ++ x :: suf) = row f pre ++ f x :: row f suf by simp [row], this]
  have e : (f x).take j ++ [v] ++ (f x).drop (j + [v].length) = f y := by
    rw [hy, List.set_eq_take_append_cons_drop, if_pos (by rw [hk]; exact hj)]; simp
  rw [e]
  simp [row]

/- laws.markIntS -/
theorem ok1080 (l : List Int) (k : Int) (hk : Lim k l.length) (hl : l.length ≤ 1099511627776) : fix Tb md 1080 [R (row fI l) (.mp 0), I k] = some ⟨[I (k + (l.length : Int))], [.row () (row fI (mI l k))], none⟩ := by
  obtain ⟨t, ht⟩ : ∃ y_, y_ = k + (l.length : Int) := ⟨_, rfl⟩
  obtain ⟨et, het⟩ : ∃ y_, y_ = row fI (mI l k) := ⟨_, rfl⟩
  have hT : AtK t k l.length := ht
  rw [← ht, ← het]
  clear ht
  refine fix_fn (fn := ir1080) tb_1080 rfl rfl (by decide) rfl ?_
  generalize hr : (⟨_, [_], none⟩ : Ret) = r
  obtain ⟨ea, hea⟩ : ∃ y_, y_ = row fI l := ⟨_, rfl⟩
  rw [← hea]
  intro add sub mul arith eq ne lt le gt ge neg conv mn mx not beq len at' ln bd cut app allS isNil mks set o hP F ho
  have la := F.len_at hea
  cbv
  refine loop_ind hP (σ := List Int × List Int × List (List V) × Int × Int) (fun s => [(0, R s.2.2.1 (.mp 0)), (1, I s.2.2.2.1), (4, I 0), (5, I s.2.2.2.2)])
    (fun s => At s.2.2.2.2 s.2.1.length ∧ AtK s.2.2.2.1 k s.2.1.length ∧ l = s.2.1 ++ s.1 ∧ s.2.2.1 = row fI (mI s.2.1 k ++ s.1)) (fun s => s.1.length) (l, [], ea, k, 0) rfl ⟨rfl, AtK.zero, rfl, by simpa [mI] using hea⟩ ?_
  rintro ⟨suf, pre, eo, x, i⟩ ⟨hi, hx, hl', heo⟩ ih
  simp only at hi hx hl' heo ih
  have lo := F.len_at heo
  cbv
  cases suf with
  | nil =>
    rw [F.lt_f hi lo (by simp [mI_len])]; cbv
    rw [← hr, show x = t by rw [hx.same, hT.same, hl']; simp, heo, het, hl']; simp
  | cons y suf =>
    have hl3 : pre.length + 1 ≤ l.length := by rw [hl']; simp
    have a1 : add .i64 x 1 = x + 1 := by rw [F.add, hx.inc hk (by omega)]
    rw [F.lt_t hi lo (by simp [mI_len])]; cbv
    obtain ⟨ix, hix⟩ : ∃ y_, y_ = pre.length * 1 := ⟨_, rfl⟩
    rw [show at' 1 eo i = some (ix, [.int .i64 y]) by rw [hix]; have h := F.get (f := fI) (k := 1) (show At i (mI pre k).length by rw [mI_len]; exact hi) heo rfl (fun _ => rfl) (by decide); rw [mI_len] at h; exact h]; cbv
    obtain ⟨eo', heo'⟩ : ∃ y_, y_ = row fI (mI pre k ++ x :: suf) := ⟨_, rfl⟩
    rw [show set eo ix [.int .i64 x] = some eo' by rw [F.set, heo, hix, heo', ← mI_len pre k]; exact set_one (fun _ => rfl) rfl]; cbv
    rw [a1]
    refine ih (suf, pre ++ [y], eo', x + 1, add .i64 i 1) ⟨at_len (F.inc hi (by omega)) (by simp), hx.one.eq (by simp), by simp [hl'], ?_⟩ (by simp)
    simp only
    rw [heo', mI_app pre [y] k x hx]; simp [mI]
theorem ok1080n (k : Int) : fix Tb md 1080 [R [] .nl, I k] = some ⟨[I k], [], none⟩ := by
  refine fix_fn (fn := ir1080) tb_1080 rfl rfl (by decide) rfl ?_
  generalize hr : (⟨_, [], none⟩ : Ret) = r
  intro add sub mul arith eq ne lt le gt ge neg conv mn mx not beq len at' ln bd cut app allS isNil mks set o hP F ho
  have la : At (len []) 0 := F.len_at (f := fI) (l := []) rfl
  have h0 : lt 0 (len []) = false := F.lt_f at0 la (Nat.le_refl 0)
  cbv
  refine loop_ind hP (σ := Unit) (fun _ => [(0, R [] .nl), (1, I k), (4, I 0), (5, I 0)]) (fun _ => True) (fun _ => 0) () rfl trivial ?_
  rintro ⟨⟩ _ ih
  clear ih
  cbv
  rw [h0]; cbv
  exact congrArg some hr

def mExt (x : Ext) (k : Int) : Ext := ⟨k, mI x.body (k + 1)⟩
def cExt (x : Ext) : Nat := 1 + x.body.length
def mExtS : List Ext → Int → List Ext
  | [], _ => []
  | x :: l, k => mExt x k :: mExtS l (k + (cExt x : Int))
def cExtS (l : List Ext) : Nat := (l.map cExt).sum
theorem mExtS_len : ∀ (l : List Ext) (k : Int), (mExtS l k).length = l.length
  | [], _ => rfl
  | _ :: l, k => by simp [mExtS, mExtS_len l _]
theorem mExtS_app : ∀ (a b : List Ext) (k x : Int), AtK x k (cExtS a) → mExtS (a ++ b) k = mExtS a k ++ mExtS b x
  | [], b, k, x, h => by simp [AtK, cExtS] at h; subst h; simp [mExtS]
  | y :: a, b, k, x, h => by
    simp only [List.cons_append, mExtS]
    rw [mExtS_app a b (k + (cExt y : Int)) x (by unfold AtK at *; simp [cExtS] at h ⊢; omega)]
theorem cExt_mid {x : Ext} (w : x.Mid) : cExt x ≤ 2147483650 := by unfold Ext.Mid at w; unfold cExt; omega
theorem cExt_small {x : Ext} (w : x.Small) : cExt x ≤ 2097154 := by unfold Ext.Small at w; unfold cExt; omega
theorem cExtS_mid {l : List Ext} (w : l.length ≤ 1073741824 ∧ ∀ y ∈ l, y.Mid) : cExtS l ≤ 2305843011361177600 :=
  Nat.le_trans (sum_le fun y hy => cExt_mid (w.2 y hy)) (Nat.mul_le_mul_right _ w.1)
theorem cExtS_small {l : List Ext} (w : l.length ≤ 1048576 ∧ ∀ y ∈ l, y.Small) : cExtS l ≤ 2199025352704 :=
  Nat.le_trans (sum_le fun y hy => cExt_small (w.2 y hy)) (Nat.mul_le_mul_right _ w.1)

/- laws.markExtS -/
set_option maxHeartbeats 2000000 in
theorem ok1201 (l : List Ext) (k : Int) (hk : Lim k (cExtS l)) (hl : l.length ≤ 1099511627776) (w0 : ∀ y ∈ l, y.body.length ≤ 1099511627776) : fix Tb md 1201 [R (row fExt l) (.mp 0), I k] = some ⟨[I (k + (cExtS l : Int))], [.row () (row fExt (mExtS l k))], none⟩ := by
  obtain ⟨t, ht⟩ : ∃ y_, y_ = k + (cExtS l : Int) := ⟨_, rfl⟩
  obtain ⟨et, het⟩ : ∃ y_, y_ = row fExt (mExtS l k) := ⟨_, rfl⟩
  have hT : AtK t k (cExtS l) := ht
  rw [← ht, ← het]
  clear ht
  refine fix_fn (fn := ir1201) tb_1201 rfl rfl (by decide) rfl ?_
  generalize hr : (⟨_, [_], none⟩ : Ret) = r
  obtain ⟨ea, hea⟩ : ∃ y_, y_ = row fExt l := ⟨_, rfl⟩
  rw [← hea]
  intro add sub mul arith eq ne lt le gt ge neg conv mn mx not beq len at' ln bd cut app allS isNil mks set o hP F ho
  cbv
  refine loop_ind hP (σ := List Ext × List Ext × List (List V) × Int × Int) (fun s => [(0, R s.2.2.1 (.mp 0)), (1, I s.2.2.2.1), (4, I 0), (5, I s.2.2.2.2)])
    (fun s => At s.2.2.2.2 s.2.1.length ∧ AtK s.2.2.2.1 k (cExtS s.2.1) ∧ l = s.2.1 ++ s.1 ∧ s.2.2.1 = row fExt (mExtS s.2.1 k ++ s.1)) (fun s => s.1.length) (l, [], ea, k, 0) rfl ⟨rfl, AtK.zero, rfl, by simpa [mExtS] using hea⟩ ?_
  rintro ⟨suf, pre, eo, z0, i⟩ ⟨hi, a0, hl', heo⟩ ih
  simp only at hi a0 hl' heo ih
  have lo := F.len_at heo
  cbv
  cases suf with
  | nil =>
    rw [F.lt_f hi lo (by simp [mExtS_len])]; cbv
    rw [← hr, show z0 = t by rw [a0.same, hT.same, hl']; simp, heo, het, hl']; simp
  | cons x suf =>
    have hl3 : pre.length + 1 ≤ l.length := by rw [hl']; simp
    have hc : cExtS l = cExtS pre + (cExt x + cExtS suf) := by rw [hl']; simp [cExtS]
    have hcx : cExt x = 1 + x.body.length := rfl
    obtain ⟨z1, hz1⟩ : ∃ y_, y_ = z0 + 1 := ⟨_, rfl⟩
    have a1 : AtK z1 k (cExtS pre + 1) := hz1 ▸ a0.one
    have s1 : add .i64 z0 1 = z1 := by rw [F.add, a0.inc hk (by omega), hz1]
    obtain ⟨z2, hz2⟩ : ∃ y_, y_ = z1 + (x.body.length : Int) := ⟨_, rfl⟩
    have a2 : AtK z2 k (cExtS pre + 1 + x.body.length) := hz2 ▸ a1.plus
    have m2 : Lim z1 x.body.length := a1.lim hk (by omega)
    have n2 : 0 ≤ z2 := by have := m2.nn; omega
    have hmx : mExt x z0 = (⟨z0, (mI x.body z1)⟩ : Ext) := by simp only [mExt, hz1, hz2]
    have hzn : z0 + (cExt x : Int) = z2 := by rw [hcx, a2.same, a0.same]; omega
    have y0 : x.body.length ≤ 1099511627776 := w0 x (by rw [hl']; simp)
    obtain ⟨e1, he1⟩ : ∃ y_, y_ = row fI x.body := ⟨_, rfl⟩
    obtain ⟨g1, hg1⟩ : ∃ y_, y_ = row fI (mI x.body z1) := ⟨_, rfl⟩
    rw [F.lt_t hi lo (by simp [mExtS_len])]; cbv
    obtain ⟨ix, hix⟩ : ∃ y_, y_ = pre.length * 2 := ⟨_, rfl⟩
    obtain ⟨eo1, heo1⟩ : ∃ y_, y_ = row fExt (mExtS pre k ++ (⟨z0, x.body⟩ : Ext) :: suf) := ⟨_, rfl⟩
    obtain ⟨eo2, heo2⟩ : ∃ y_, y_ = row fExt (mExtS pre k ++ (⟨z0, (mI x.body z1)⟩ : Ext) :: suf) := ⟨_, rfl⟩
    rw [show at' 2 eo i = some (ix, [.int .i64 x.tag, .row () e1]) by simp only [hix, he1, hg1]; have h := F.get (f := fExt) (k := 2) (show At i (mExtS pre k).length by rw [mExtS_len]; exact hi) heo rfl (fun _ => rfl) (by decide); rw [mExtS_len] at h; exact h]; cbv
    have q0 : setFlat eo (ix + 0) [.int .i64 z0] = some eo1 := by simp only [heo, heo1, he1, hg1]; exact set_fld (k := 2) (fun _ => rfl) (by decide) (by simp [fExt]) (by rw [hix, mExtS_len])
    first | rw [show set eo (ix + 0) [.int .i64 z0] = some eo1 by rw [F.set]; exact q0] | rw [show set eo (Nat.add ix 0) [.int .i64 z0] = some eo1 by rw [F.set]; exact q0] | rw [show set eo ix [.int .i64 z0] = some eo1 by rw [F.set]; exact q0] | trace_state
    cbv
    rw [s1]
    rw [show at' 2 eo1 i = some (ix, [.int .i64 z0, .row () e1]) by simp only [hix, he1, hg1]; have h := F.get (f := fExt) (k := 2) (show At i (mExtS pre k).length by rw [mExtS_len]; exact hi) heo1 rfl (fun _ => rfl) (by decide); rw [mExtS_len] at h; exact h]; cbv
    have c1 : o 1080 [R e1 (.mp 0), I z1] = some ⟨[I z2], [.row () g1], none⟩ := by rw [ho, he1, hg1, hz2]; exact ok1080 _ _ m2 y0
    rw [c1]; cbv
    have q1 : setFlat eo1 (ix + 1) [.row () g1] = some eo2 := by simp only [heo1, heo2, he1, hg1]; exact set_fld (k := 2) (fun _ => rfl) (by decide) (by simp [fExt]) (by rw [hix, mExtS_len])
    first | rw [show set eo1 (ix + 1) [.row () g1] = some eo2 by rw [F.set]; exact q1] | rw [show set eo1 (Nat.add ix 1) [.row () g1] = some eo2 by rw [F.set]; exact q1] | rw [show set eo1 ix [.row () g1] = some eo2 by rw [F.set]; exact q1] | trace_state
    cbv
    refine ih (suf, pre ++ [x], eo2, z2, add .i64 i 1) ⟨at_len (F.inc hi (by omega)) (by simp), a2.eq (by simp [cExtS, cExt] <;> omega), by simp [hl'], ?_⟩ (by simp)
    simp only
    rw [heo2, mExtS_app pre [x] k z0 a0, ← hmx]; simp [mExtS]
theorem ok1201n (k : Int) : fix Tb md 1201 [R [] .nl, I k] = some ⟨[I k], [], none⟩ := by
  refine fix_fn (fn := ir1201) tb_1201 rfl rfl (by decide) rfl ?_
  generalize hr : (⟨_, [], none⟩ : Ret) = r
  intro add sub mul arith eq ne lt le gt ge neg conv mn mx not beq len at' ln bd cut app allS isNil mks set o hP F ho
  have la : At (len []) 0 := F.len_at (f := fExt) (l := []) rfl
  have h0 : lt 0 (len []) = false := F.lt_f at0 la (Nat.le_refl 0)
  cbv
  refine loop_ind hP (σ := Unit) (fun _ => [(0, R [] .nl), (1, I k), (4, I 0), (5, I 0)]) (fun _ => True) (fun _ => 0) () rfl trivial ?_
  rintro ⟨⟩ _ ih
  clear ih
  cbv
  rw [h0]; cbv
  exact congrArg some hr

def wHello (x : Hello) (k : Int) : Hello := ⟨mI x.versions k, mExtS x.exts (k + (x.versions.length : Int))⟩
def nHello (x : Hello) : Nat := x.versions.length + cExtS x.exts
theorem nHello_mid {x : Hello} (w : x.Mid) : nHello x ≤ 2305843016730000000 := by unfold Hello.Mid at w; have h0 := w.1; have h1 := cExtS_mid (show _ from w.2); unfold nHello; omega
theorem nHello_small {x : Hello} (w : x.Small) : nHello x ≤ 2199100000000 := by unfold Hello.Small at w; have h0 := w.1; have h1 := cExtS_small (show _ from w.2); unfold nHello; omega

/- laws.markHello -/
theorem ok1081 (x : Hello) (k : Int) (hk : Lim k (nHello x)) (w : x.Mid) : fix Tb md 1081 [sHello (row fI x.versions) (row fExt x.exts) (.mp 0) (.mp 1), I k] = some ⟨[I (k + (nHello x : Int))], [.row () (row fI (wHello x k).versions), .row () (row fExt (wHello x k).exts)], none⟩ := by
  have hn : nHello x = x.versions.length + cExtS x.exts := rfl
  unfold Hello.Mid at w
  have a0 : AtK k k 0 := AtK.zero
  obtain ⟨z1, hz1⟩ : ∃ y_, y_ = k + (x.versions.length : Int) := ⟨_, rfl⟩
  have a1 : AtK z1 k (0 + x.versions.length) := hz1 ▸ a0.plus
  have m1 : Lim k (x.versions.length) := a0.lim hk (by omega)
  have n1 : 0 ≤ z1 := by have := m1.nn; omega
  obtain ⟨z2, hz2⟩ : ∃ y_, y_ = z1 + (cExtS x.exts : Int) := ⟨_, rfl⟩
  have a2 : AtK z2 k (0 + x.versions.length + cExtS x.exts) := hz2 ▸ a1.plus
  have m2 : Lim z1 (cExtS x.exts) := a1.lim hk (by omega)
  have n2 : 0 ≤ z2 := by have := m2.nn; omega
  rw [show k + (nHello x : Int) = z2 by rw [a2.same, hn]; simp]
  have x0 : (wHello x k).versions = mI x.versions k := by simp only [wHello, hz1, hz2]
  have x1 : (wHello x k).exts = mExtS x.exts z1 := by simp only [wHello, hz1, hz2]
  rw [x0, x1]
  obtain ⟨g0, hg0⟩ : ∃ y_, y_ = row fI (mI x.versions k) := ⟨_, rfl⟩
  obtain ⟨e0, he0⟩ : ∃ y_, y_ = row fI x.versions := ⟨_, rfl⟩
  obtain ⟨g1, hg1⟩ : ∃ y_, y_ = row fExt (mExtS x.exts z1) := ⟨_, rfl⟩
  obtain ⟨e1, he1⟩ : ∃ y_, y_ = row fExt x.exts := ⟨_, rfl⟩
  rw [← hg0, ← he0, ← hg1, ← he1]
  refine fix_fn (fn := ir1081) tb_1081 rfl rfl (by decide) rfl ?_
  generalize hr : (⟨_, [_, _], none⟩ : Ret) = r
  intro add sub mul arith eq ne lt le gt ge neg conv mn mx not beq len at' ln bd cut app allS isNil mks set o hP F ho
  have c1 : o 1080 [R e0 (.mp 0), I k] = some ⟨[I z1], [.row () g0], none⟩ := by rw [ho, hz1, hg0, he0]; exact ok1080 _ _ m1 (Nat.le_trans (w.1) (by decide))
  have c2 : o 1201 [R e1 (.mp 0), I z1] = some ⟨[I z2], [.row () g1], none⟩ := by rw [ho, hz2, hg1, he1]; exact ok1201 _ _ m2 (Nat.le_trans w.2.1 (by decide)) (fun y hy => Nat.le_trans ((w.2.2 y hy)) (by decide))
  cbv
  rw [c1]; cbv
  rw [c2]; cbv
  exact congrArg some hr
theorem ok1081_on (x : Hello) (k : Int) (hk : Lim k (nHello x)) (w : x.Mid) (y1 : x.exts = []) : fix Tb md 1081 [sHello (row fI x.versions) (row fExt x.exts) (.mp 0) .nl, I k] = some ⟨[I (k + (nHello x : Int))], [.row () (row fI (wHello x k).versions)], none⟩ := by
  have hn : nHello x = x.versions.length + cExtS x.exts := rfl
  unfold Hello.Mid at w
  have a0 : AtK k k 0 := AtK.zero
  obtain ⟨z1, hz1⟩ : ∃ y_, y_ = k + (x.versions.length : Int) := ⟨_, rfl⟩
  have a1 : AtK z1 k (0 + x.versions.length) := hz1 ▸ a0.plus
  have m1 : Lim k (x.versions.length) := a0.lim hk (by omega)
  have n1 : 0 ≤ z1 := by have := m1.nn; omega
  obtain ⟨z2, hz2⟩ : ∃ y_, y_ = z1 + (cExtS x.exts : Int) := ⟨_, rfl⟩
  have a2 : AtK z2 k (0 + x.versions.length + cExtS x.exts) := hz2 ▸ a1.plus
  have m2 : Lim z1 (cExtS x.exts) := a1.lim hk (by omega)
  have n2 : 0 ≤ z2 := by have := m2.nn; omega
  rw [show k + (nHello x : Int) = z2 by rw [a2.same, hn]; simp]
  have x0 : (wHello x k).versions = mI x.versions k := by simp only [wHello, hz1, hz2]
  have x1 : (wHello x k).exts = mExtS x.exts z1 := by simp only [wHello, hz1, hz2]
  rw [x0]
  obtain ⟨g0, hg0⟩ : ∃ y_, y_ = row fI (mI x.versions k) := ⟨_, rfl⟩
  obtain ⟨e0, he0⟩ : ∃ y_, y_ = row fI x.versions := ⟨_, rfl⟩
  have e1 : row fExt x.exts = [] := by rw [y1]; rfl
  rw [← hg0, ← he0, e1]
  refine fix_fn (fn := ir1081) tb_1081 rfl rfl (by decide) rfl ?_
  generalize hr : (⟨_, [_], none⟩ : Ret) = r
  intro add sub mul arith eq ne lt le gt ge neg conv mn mx not beq len at' ln bd cut app allS isNil mks set o hP F ho
  have c1 : o 1080 [R e0 (.mp 0), I k] = some ⟨[I z1], [.row () g0], none⟩ := by rw [ho, hz1, hg0, he0]; exact ok1080 _ _ m1 (Nat.le_trans (w.1) (by decide))
  have c2 : o 1201 [R [] .nl, I z1] = some ⟨[I z2], [], none⟩ := by rw [ho, show z2 = z1 by rw [hz2, y1]; simp [cExtS]]; exact ok1201n _
  cbv
  rw [c1]; cbv
  rw [c2]; cbv
  exact congrArg some hr
theorem ok1081_no (x : Hello) (k : Int) (hk : Lim k (nHello x)) (w : x.Mid) (y0 : x.versions = []) : fix Tb md 1081 [sHello (row fI x.versions) (row fExt x.exts) .nl (.mp 0), I k] = some ⟨[I (k + (nHello x : Int))], [.row () (row fExt (wHello x k).exts)], none⟩ := by
  have hn : nHello x = x.versions.length + cExtS x.exts := rfl
  unfold Hello.Mid at w
  have a0 : AtK k k 0 := AtK.zero
  obtain ⟨z1, hz1⟩ : ∃ y_, y_ = k + (x.versions.length : Int) := ⟨_, rfl⟩
  have a1 : AtK z1 k (0 + x.versions.length) := hz1 ▸ a0.plus
  have m1 : Lim k (x.versions.length) := a0.lim hk (by omega)
  have n1 : 0 ≤ z1 := by have := m1.nn; omega
  obtain ⟨z2, hz2⟩ : ∃ y_, y_ = z1 + (cExtS x.exts : Int) := ⟨_, rfl⟩
  have a2 : AtK z2 k (0 + x.versions.length + cExtS x.exts) := hz2 ▸ a1.plus
  have m2 : Lim z1 (cExtS x.exts) := a1.lim hk (by omega)
  have n2 : 0 ≤ z2 := by have := m2.nn; omega
  rw [show k + (nHello x : Int) = z2 by rw [a2.same, hn]; simp]
  have x0 : (wHello x k).versions = mI x.versions k := by simp only [wHello, hz1, hz2]
  have x1 : (wHello x k).exts = mExtS x.exts z1 := by simp only [wHello, hz1, hz2]
  rw [x1]
  have e0 : row fI x.versions = [] := by rw [y0]; rfl
  obtain ⟨g1, hg1⟩ : ∃ y_, y_ = row fExt (mExtS x.exts z1) := ⟨_, rfl⟩
  obtain ⟨e1, he1⟩ : ∃ y_, y_ = row fExt x.exts := ⟨_, rfl⟩
  rw [e0, ← hg1, ← he1]
  refine fix_fn (fn := ir1081) tb_1081 rfl rfl (by decide) rfl ?_
  generalize hr : (⟨_, [_], none⟩ : Ret) = r
  intro add sub mul arith eq ne lt le gt ge neg conv mn mx not beq len at' ln bd cut app allS isNil mks set o hP F ho
  have c1 : o 1080 [R [] .nl, I k] = some ⟨[I z1], [], none⟩ := by rw [ho, show z1 = k by rw [hz1, y0]; simp]; exact ok1080n _
  have c2 : o 1201 [R e1 (.mp 0), I z1] = some ⟨[I z2], [.row () g1], none⟩ := by rw [ho, hz2, hg1, he1]; exact ok1201 _ _ m2 (Nat.le_trans w.2.1 (by decide)) (fun y hy => Nat.le_trans ((w.2.2 y hy)) (by decide))
  cbv
  rw [c1]; cbv
  rw [c2]; cbv
  exact congrArg some hr
theorem ok1081_nn (x : Hello) (k : Int) (hk : Lim k (nHello x)) (w : x.Mid) (y0 : x.versions = []) (y1 : x.exts = []) : fix Tb md 1081 [sHello (row fI x.versions) (row fExt x.exts) .nl .nl, I k] = some ⟨[I (k + (nHello x : Int))], [], none⟩ := by
  have hn : nHello x = x.versions.length + cExtS x.exts := rfl
  unfold Hello.Mid at w
  have a0 : AtK k k 0 := AtK.zero
  obtain ⟨z1, hz1⟩ : ∃ y_, y_ = k + (x.versions.length : Int) := ⟨_, rfl⟩
  have a1 : AtK z1 k (0 + x.versions.length) := hz1 ▸ a0.plus
  have m1 : Lim k (x.versions.length) := a0.lim hk (by omega)
  have n1 : 0 ≤ z1 := by have := m1.nn; omega
  obtain ⟨z2, hz2⟩ : ∃ y_, y_ = z1 + (cExtS x.exts : Int) := ⟨_, rfl⟩
  have a2 : AtK z2 k (0 + x.versions.length + cExtS x.exts) := hz2 ▸ a1.plus
  have m2 : Lim z1 (cExtS x.exts) := a1.lim hk (by omega)
  have n2 : 0 ≤ z2 := by have := m2.nn; omega
  rw [show k + (nHello x : Int) = z2 by rw [a2.same, hn]; simp]
  have x0 : (wHello x k).versions = mI x.versions k := by simp only [wHello, hz1, hz2]
  have x1 : (wHello x k).exts = mExtS x.exts z1 := by simp only [wHello, hz1, hz2]
  have e0 : row fI x.versions = [] := by rw [y0]; rfl
  have e1 : row fExt x.exts = [] := by rw [y1]; rfl
  rw [e0, e1]
  refine fix_fn (fn := ir1081) tb_1081 rfl rfl (by decide) rfl ?_
  generalize hr : (⟨_, [], none⟩ : Ret) = r
  intro add sub mul arith eq ne lt le gt ge neg conv mn mx not beq len at' ln bd cut app allS isNil mks set o hP F ho
  have c1 : o 1080 [R [] .nl, I k] = some ⟨[I z1], [], none⟩ := by rw [ho, show z1 = k by rw [hz1, y0]; simp]; exact ok1080n _
  have c2 : o 1201 [R [] .nl, I z1] = some ⟨[I z2], [], none⟩ := by rw [ho, show z2 = z1 by rw [hz2, y1]; simp [cExtS]]; exact ok1201n _
  cbv
  rw [c1]; cbv
  rw [c2]; cbv
  exact congrArg some hr

/- spec.l1In -/
theorem ok230 (n lo hi : Int) : fix Tb md 230 [I n, I lo, I hi] = some ⟨[B (inR n lo hi)], [], none⟩ := by
  refine fix_fn (fn := ir230) tb_230 rfl rfl (by decide) rfl ?_; simp only [shutArgs, shutS, List.map_cons, List.map_nil, ir230, List.head?_nil, reduceCtorEq, if_false, sExt, sHello, sAnswer, sEdit, sDeal, sBox, sDialed, sKnown]
  generalize hr : (⟨_, [], none⟩ : Ret) = r
  intro add sub mul arith eq ne lt le gt ge neg conv mn mx not beq len at' ln bd cut app allS isNil mks set o hP F ho
  cbv
  repeat' (refine both (fun c => ?_) (fun c => ?_) <;> (try rw [c]) <;> (try cbv))
  all_goals (simp only [F.le, F.ge, F.lt, F.gt] at *; subst hr; (try simp_all [inR]) <;> (try omega))

/- spec.AreVersions -/
def verGo : List Int → List Int → Bool
  | _, [] => true
  | pre, x :: suf => inR x 1 9 && (match pre.getLast? with | none => true | some y => !decide (x ≤ y)) && verGo (pre ++ [x]) suf
def areVer (l : List Int) : Bool := verGo [] l && decide (0 < l.length)
theorem ok257 (l : List Int) (hl : l.length ≤ 1099511627776) {f0 : Fl} (h0 : inFl f0 = true) : fix Tb md 257 [R (row fI l) f0] = some ⟨[B (areVer l)], [], none⟩ := by
  obtain ⟨T, hT⟩ : ∃ y_, y_ = verGo [] l := ⟨_, rfl⟩
  rw [show areVer l = (T && decide (0 < l.length)) by rw [hT]; rfl]
  generalize hr : (⟨_, [], none⟩ : Ret) = r
  obtain ⟨ea, hea⟩ : ∃ y_, y_ = row fI l := ⟨_, rfl⟩
  rw [← hea]
  refine fix_fn2 (fn := ir257) tb_257 rfl rfl (by decide) rfl ?_; intro Q hQ; simp only [shutArgs, shutS, List.map_cons, List.map_nil, ir257, shut_in h0, List.head?_nil, reduceCtorEq, if_false, sExt, sHello, sAnswer, sEdit, sDeal, sBox, sDialed, sKnown]
  intro add sub mul arith eq ne lt le gt ge neg conv mn mx not beq len at' ln bd cut app allS isNil mks set o hP F ho
  have la := F.len_at hea
  have h6 : gt (len ea) 0 = decide (0 < l.length) := F.gt_n la rfl
  cbv
  refine loop_ind2 hP (σ := List Int × List Int × Int) (fun s => [(0, R ea .sh), (2, B false), (3, I s.2.2)]) (fun s => At s.2.2 s.2.1.length ∧ l = s.2.1 ++ s.1 ∧ verGo s.2.1 s.1 = T) (fun s => s.1.length) (l, [], 0) rfl ⟨rfl, rfl, hT.symm⟩ ?_
  intro c1 Q1 hc1 hQ1
  rintro ⟨suf, pre, i⟩ ⟨hi, hl', hb⟩ ih
  simp only at hi hl' hb ih
  cbv
  cases suf with
  | nil =>
    rw [F.lt_f hi la (by simp [hl'])]; cbv
    rw [hQ1]; cbv
    rw [hQ]; cbv
    rw [h6, ← hr, ← hb]; rfl
  | cons x suf =>
    obtain ⟨ix, hix⟩ : ∃ y_, y_ = pre.length * 1 := ⟨_, rfl⟩
    have hpre : pre.length ≤ 1099511627776 := by rw [hl'] at hl; simp at hl; omega
    have p0 : at' 1 ea i = some (ix, [.int .i64 x]) := by rw [hix]; exact F.get hi hea hl' (fun _ => rfl) (by decide)
    obtain ⟨b1, hb1⟩ : ∃ y_, y_ = inR x 1 9 := ⟨_, rfl⟩
    have c1 : o 230 [I x, I 1, I 9] = some ⟨[B b1], [], none⟩ := by rw [ho, hb1]; exact ok230 ..
    have hv0 : verGo pre (x :: suf) = (b1 && (match pre.getLast? with | none => true | some y => !decide (x ≤ y)) && verGo (pre ++ [x]) suf) := by rw [hb1]; rfl
    rw [hv0] at hb
    have hi' : At (add .i64 i 1) (pre ++ [x]).length := at_len (F.inc hi (by omega)) (by simp)
    have hl2 : l = (pre ++ [x]) ++ suf := by rw [hl']; simp
    have hg0 : gt i 0 = decide (0 < pre.length) := F.gt_n hi rfl
    rw [F.lt_t hi la (by simp [hl'])]; cbv
    rw [p0]; cbv
    rw [c1]; cbv
    refine both (fun d1 => ?_) (fun d1 => ?_) <;> rw [d1] <;> cbv
    · rw [hQ1]; cbv
      rw [hQ]; cbv
      rw [← hr, show T = false by rw [← hb, F.not_t d1]; rfl]; rfl
    rw [F.not_f d1, Bool.true_and] at hb
    rcases List.eq_nil_or_concat pre with hp | ⟨p', y, hp⟩
    · rw [show gt i 0 = false by rw [hg0, hp]; rfl]; cbv
      refine ih (suf, pre ++ [x], add .i64 i 1) ⟨hi', hl2, ?_⟩ (by simp)
      simp only
      rw [← hb, hp]; rfl
    · rw [show gt i 0 = true by rw [hg0, hp]; simp]; cbv
      obtain ⟨iy, hiy⟩ : ∃ y_, y_ = p'.length * 1 := ⟨_, rfl⟩
      have hi2 : At (sub .i64 i 1) p'.length := by unfold At at hi ⊢; rw [hp] at hi; simp at hi; rw [F.sub, hi, wrap64 (by omega) (by rw [hp] at hpre; simp at hpre; omega)]; omega
      rw [show at' 1 ea (sub .i64 i 1) = some (iy, [.int .i64 y]) by rw [hiy]; exact F.get hi2 hea (show l = p' ++ y :: (x :: suf) by rw [hl', hp]; simp) (fun _ => rfl) (by decide)]; cbv
      rw [p0]; cbv
      obtain ⟨u, hu⟩ : ∃ y_, y_ = decide (x ≤ y) := ⟨_, rfl⟩
      rw [show ge y x = u by rw [F.ge, hu]]; cbv
      have hgl : pre.getLast? = some y := by rw [hp]; simp
      rw [hgl] at hb
      simp only at hb
      rw [← hu] at hb
      refine both (fun d3 => ?_) (fun d3 => ?_) <;> rw [d3] <;> cbv
      · rw [hQ1]; cbv
        rw [hQ]; cbv
        rw [← hr, show T = false by rw [← hb, d3]; rfl]; rfl
      · refine ih (suf, pre ++ [x], add .i64 i 1) ⟨hi', hl2, ?_⟩ (by simp)
        rw [← hb, d3]; simp

/- spec.l9Byte -/
theorem ok231 (l : List Int) (hl : l.length ≤ 1099511627776) {f0 : Fl} (h0 : inFl f0 = true) : fix Tb md 231 [R (row fI l) f0] = some ⟨[B (bytes l)], [], none⟩ := by
  refine fix_fn (fn := ir231) tb_231 rfl rfl (by decide) rfl ?_; simp only [shutArgs, shutS, List.map_cons, List.map_nil, ir231, shut_in h0, List.head?_nil, reduceCtorEq, if_false, sExt, sHello, sAnswer, sEdit, sDeal, sBox, sDialed, sKnown]
  generalize hr : (⟨_, [], none⟩ : Ret) = r
  obtain ⟨ea, hea⟩ : ∃ y_, y_ = row fI l := ⟨_, rfl⟩
  rw [← hea]
  intro add sub mul arith eq ne lt le gt ge neg conv mn mx not beq len at' ln bd cut app allS isNil mks set o hP F ho
  have la := F.len_at hea
  cbv
  refine loop_ind hP (σ := List Int × List Int × Int) (fun s => [(0, R ea .sh), (2, B false), (3, I s.2.2)]) (fun s => At s.2.2 s.1.length ∧ l = s.1 ++ s.2.1 ∧ bytes s.1 = true) (fun s => s.2.1.length) ([], l, 0) rfl ⟨rfl, rfl, rfl⟩ ?_
  rintro ⟨pre, suf, i⟩ ⟨hi, hl', hb⟩ ih
  simp only at hi hl' hb ih
  cbv
  cases suf with
  | nil =>
    rw [F.lt_f hi la (by simp [hl'])]; cbv
    rw [← hr, hl']; simp [hb]
  | cons x suf =>
    rw [F.lt_t hi la (by simp [hl'])]; cbv
    obtain ⟨ix, hix⟩ : ∃ y_, y_ = pre.length * 1 := ⟨_, rfl⟩
    rw [show at' 1 ea i = some (ix, [.int .i64 x]) by rw [hix]; exact F.get hi hea hl' (fun _ => rfl) (by decide)]; cbv
    obtain ⟨v, hv⟩ : ∃ y_, y_ = inR x 0 255 := ⟨_, rfl⟩
    rw [show o 230 [I x, I 0, I 255] = some ⟨[B v], [], none⟩ by rw [ho, hv]; exact ok230 x 0 255]; cbv
    refine both (fun c => ?_) (fun c => ?_) <;> rw [c] <;> cbv
    · rw [← hr, hl']
      rw [F.not] at c
      simp [bytes] at *
      simp_all
    · rw [F.not] at c
      simp at c
      refine ih (pre ++ [x], suf, add .i64 i 1) ⟨at_len (F.inc hi (by simp [hl'] at hl; omega)) (by simp), by simp [hl'], ?_⟩ (by simp)
      simp [bytes] at *
      simp_all

def ixOf {α : Type} (p : α → Bool) : List α → Int → Int
  | [], _ => -1
  | x :: l, i => if p x = true then i else ixOf p l (i + 1)
theorem ixOf_ge {α : Type} (p : α → Bool) : ∀ (l : List α) (i : Int), 0 ≤ i → decide (0 ≤ ixOf p l i) = l.any p
  | [], i, h => by simp [ixOf]
  | x :: l, i, h => by
    unfold ixOf
    rw [List.any_cons]
    by_cases hx : p x = true
    · rw [if_pos hx, hx]; simpa using h
    · rw [if_neg hx, ixOf_ge p l (i + 1) (by omega)]; simp at hx; simp [hx]
theorem ixOf_none {α : Type} {p : α → Bool} : ∀ {l : List α} {i : Int}, l.any p = false → ixOf p l i = -1
  | [], i, _ => rfl
  | x :: l, i, h => by
    rw [List.any_cons, Bool.or_eq_false_iff] at h
    unfold ixOf
    rw [if_neg (by rw [h.1]; decide), ixOf_none h.2]

/- spec.ExtOf -/
def tagP (t : Int) (e : Ext) : Bool := decide (e.tag = t)
def extOf (l : List Ext) (t : Int) : Int := ixOf (tagP t) l 0
theorem ixOf_pre {α : Type} {p : α → Bool} : ∀ {pre : List α} {x : α} {suf : List α} {i : Int}, p x = true → (pre.any p = false → ixOf p (pre ++ x :: suf) i = i + (pre.length : Int)) ∧ (pre.any p = true → ixOf p (pre ++ x :: suf) i < i + (pre.length : Int))
  | [], x, suf, i, hx => by simp [ixOf, hx]
  | y :: pre, x, suf, i, hx => by
    obtain ⟨h1, h2⟩ := ixOf_pre (pre := pre) (suf := suf) (i := i + 1) hx
    rw [List.cons_append, List.any_cons]
    unfold ixOf
    by_cases hy : p y = true
    · rw [if_pos hy, hy]; simp; omega
    · rw [if_neg hy]; simp at hy; rw [hy, Bool.false_or]
      constructor
      · intro q; rw [h1 q]; simp; omega
      · intro q; have := h2 q; simp; omega
theorem ixOf_lt {α : Type} {p : α → Bool} {pre : List α} {x : α} {suf : List α} {i : Int} (hx : p x = true) (hi : At i pre.length) : decide (ixOf p (pre ++ x :: suf) 0 < i) = pre.any p := by
  unfold At at hi
  obtain ⟨h1, h2⟩ := ixOf_pre (pre := pre) (suf := suf) (i := 0) hx
  cases h : pre.any p with
  | false => rw [h1 h, hi]; simp
  | true => have := h2 h; rw [hi]; simp; omega
theorem ok286 (l : List Ext) (t : Int) (hl : l.length ≤ 1099511627776) {f0 : Fl} (h0 : inFl f0 = true) : fix Tb md 286 [R (row fExt l) f0, I t] = some ⟨[I (extOf l t)], [], none⟩ := by
  obtain ⟨T, hT⟩ : ∃ y_, y_ = extOf l t := ⟨_, rfl⟩
  rw [← hT]
  generalize hr : (⟨_, [], none⟩ : Ret) = r
  obtain ⟨ea, hea⟩ : ∃ y_, y_ = row fExt l := ⟨_, rfl⟩
  rw [← hea]
  refine fix_fn2 (fn := ir286) tb_286 rfl rfl (by decide) rfl ?_; intro Q hQ; simp only [shutArgs, shutS, List.map_cons, List.map_nil, ir286, shut_in h0, List.head?_nil, reduceCtorEq, if_false, sExt, sHello, sAnswer, sEdit, sDeal, sBox, sDialed, sKnown]
  intro add sub mul arith eq ne lt le gt ge neg conv mn mx not beq len at' ln bd cut app allS isNil mks set o hP F ho
  have la := F.len_at hea
  cbv
  refine loop_ind2 hP (σ := List Ext × List Ext × Int) (fun s => [(0, R ea .sh), (1, I t), (4, I 0), (5, I s.2.2)]) (fun s => At s.2.2 s.2.1.length ∧ l = s.2.1 ++ s.1 ∧ (s.2.1.any (tagP t)) = false) (fun s => s.1.length) (l, [], 0) rfl ⟨rfl, rfl, rfl⟩ ?_
  intro c1 Q1 hc1 hQ1
  rintro ⟨suf, pre, i⟩ ⟨hi, hl', hb⟩ ih
  simp only at hi hl' hb ih
  cbv
  cases suf with
  | nil =>
    rw [F.lt_f hi la (by simp [hl'])]; cbv
    rw [hQ1]; cbv
    rw [hQ]; cbv
    rw [← hr, hT, show extOf l t = -1 from ixOf_none (by rw [hl', List.append_nil]; exact hb)]
  | cons x suf =>
    obtain ⟨v, hv⟩ : ∃ y_, y_ = tagP t x := ⟨_, rfl⟩
    have hT' : v = true → T = i := fun q => by
      rw [hT, hl']; unfold At at hi
      rw [show extOf (pre ++ x :: suf) t = 0 + (pre.length : Int) from (ixOf_pre (hv ▸ q)).1 hb, hi]; simp
    rw [F.lt_t hi la (by simp [hl'])]; cbv
    obtain ⟨ix, hix⟩ : ∃ y_, y_ = pre.length * 2 := ⟨_, rfl⟩
    obtain ⟨e1, he1⟩ : ∃ y_, y_ = row fI x.body := ⟨_, rfl⟩
    rw [show at' 2 ea i = some (ix, [.int .i64 x.tag, .row () e1]) by rw [hix, he1]; exact F.get hi hea hl' (fun _ => rfl) (by decide)]; cbv
    rw [show eq x.tag t = v by rw [F.eq, hv]; rfl]; cbv
    refine both (fun d => ?_) (fun d => ?_) <;> rw [d] <;> cbv
    · rw [hQ1]; cbv
      rw [hQ]; cbv
      rw [← hr, hT' d]
    · refine ih (suf, pre ++ [x], add .i64 i 1) ⟨at_len (F.inc hi (by simp [hl'] at hl; omega)) (by simp), by simp [hl'], ?_⟩ (by simp)
      simp only
      rw [List.any_append, hb, List.any_cons, ← hv, d]; rfl

/- spec.AreExts -/
def exOk : List Ext → List Ext → Bool
  | _, [] => true
  | pre, x :: suf => inR x.tag 0 255 && !decide (4 < x.body.length) && bytes x.body && !(pre.any (tagP x.tag)) && exOk (pre ++ [x]) suf
def areEx (l : List Ext) : Bool := exOk [] l && decide (l.length ≤ 6)
theorem ok271 (l : List Ext) (hl : l.length ≤ 1099511627776) (w : ∀ y ∈ l, y.body.length ≤ 1099511627776) {f0 : Fl} (h0 : inFl f0 = true) : fix Tb md 271 [R (row fExt l) f0] = some ⟨[B (areEx l)], [], none⟩ := by
  obtain ⟨T, hT⟩ : ∃ y_, y_ = exOk [] l := ⟨_, rfl⟩
  rw [show areEx l = (T && decide (l.length ≤ 6)) by rw [hT]; rfl]
  generalize hr : (⟨_, [], none⟩ : Ret) = r
  obtain ⟨ea, hea⟩ : ∃ y_, y_ = row fExt l := ⟨_, rfl⟩
  rw [← hea]
  refine fix_fn2 (fn := ir271) tb_271 rfl rfl (by decide) rfl ?_; intro Q hQ; simp only [shutArgs, shutS, List.map_cons, List.map_nil, ir271, shut_in h0, List.head?_nil, reduceCtorEq, if_false, sExt, sHello, sAnswer, sEdit, sDeal, sBox, sDialed, sKnown]
  intro add sub mul arith eq ne lt le gt ge neg conv mn mx not beq len at' ln bd cut app allS isNil mks set o hP F ho
  have la := F.len_at hea
  have h6 : le (len ea) 6 = decide (l.length ≤ 6) := F.le_n la rfl
  cbv
  refine loop_ind2 hP (σ := List Ext × List Ext × Int) (fun s => [(0, R ea .sh), (2, B false), (3, I s.2.2)]) (fun s => At s.2.2 s.2.1.length ∧ l = s.2.1 ++ s.1 ∧ exOk s.2.1 s.1 = T) (fun s => s.1.length) (l, [], 0) rfl ⟨rfl, rfl, hT.symm⟩ ?_
  intro c1 Q1 hc1 hQ1
  rintro ⟨suf, pre, i⟩ ⟨hi, hl', hb⟩ ih
  simp only at hi hl' hb ih
  cbv
  cases suf with
  | nil =>
    rw [F.lt_f hi la (by simp [hl'])]; cbv
    rw [hQ1]; cbv
    rw [hQ]; cbv
    rw [h6, ← hr, ← hb]; rfl
  | cons x suf =>
    obtain ⟨ix, hix⟩ : ∃ y_, y_ = pre.length * 2 := ⟨_, rfl⟩
    obtain ⟨e1, he1⟩ : ∃ y_, y_ = row fI x.body := ⟨_, rfl⟩
    have l1 := F.len_at he1
    have hx := w x (by rw [hl']; simp)
    have p0 : at' 2 ea i = some (ix, [.int .i64 x.tag, .row () e1]) := by rw [hix, he1]; exact F.get hi hea hl' (fun _ => rfl) (by decide)
    obtain ⟨b1, hb1⟩ : ∃ y_, y_ = inR x.tag 0 255 := ⟨_, rfl⟩
    obtain ⟨b2, hb2⟩ : ∃ y_, y_ = decide (4 < x.body.length) := ⟨_, rfl⟩
    obtain ⟨b3, hb3⟩ : ∃ y_, y_ = bytes x.body := ⟨_, rfl⟩
    obtain ⟨b4, hb4⟩ : ∃ y_, y_ = pre.any (tagP x.tag) := ⟨_, rfl⟩
    obtain ⟨v, hv⟩ : ∃ y_, y_ = extOf l x.tag := ⟨_, rfl⟩
    have g4 : gt (len e1) 4 = b2 := by rw [hb2]; exact F.gt_n l1 rfl
    have c1 : o 230 [I x.tag, I 0, I 255] = some ⟨[B b1], [], none⟩ := by rw [ho, hb1]; exact ok230 ..
    have c3 : o 231 [R e1 (.sp 0 0)] = some ⟨[B b3], [], none⟩ := by rw [ho, hb3, he1]; exact ok231 _ hx rfl
    have c4 : o 286 [R ea (.sp 0 0), I x.tag] = some ⟨[I v], [], none⟩ := by rw [ho, hv, hea]; exact ok286 _ _ hl rfl
    have g5 : lt v i = b4 := by rw [F.lt, hv, hb4, hl']; exact ixOf_lt (by simp [tagP]) hi
    have hT' : T = (b1 && !b2 && b3 && !b4 && exOk (pre ++ [x]) suf) := by rw [← hb, hb1, hb2, hb3, hb4]; rfl
    rw [F.lt_t hi la (by simp [hl'])]; cbv
    rw [p0]; cbv
    rw [c1]; cbv
    refine both (fun d1 => ?_) (fun d1 => ?_) <;> rw [d1] <;> cbv
    · rw [hQ1]; cbv
      rw [hQ]; cbv
      rw [← hr, show T = false by rw [hT', F.not_t d1]; rfl]; rfl
    rw [p0]; cbv
    rw [g4]; cbv
    refine both (fun d2 => ?_) (fun d2 => ?_) <;> rw [d2] <;> cbv
    · rw [hQ1]; cbv
      rw [hQ]; cbv
      rw [← hr, show T = false by rw [hT', d2]; simp]; rfl
    rw [p0]; cbv
    rw [c3]; cbv
    refine both (fun d3 => ?_) (fun d3 => ?_) <;> rw [d3] <;> cbv
    · rw [hQ1]; cbv
      rw [hQ]; cbv
      rw [← hr, show T = false by rw [hT', F.not_t d3]; simp]; rfl
    rw [p0]; cbv
    rw [c4]; cbv
    rw [g5]; cbv
    refine both (fun d4 => ?_) (fun d4 => ?_) <;> rw [d4] <;> cbv
    · rw [hQ1]; cbv
      rw [hQ]; cbv
      rw [← hr, show T = false by rw [hT', d4]; simp]; rfl
    refine ih (suf, pre ++ [x], add .i64 i 1) ⟨at_len (F.inc hi (by simp [hl'] at hl; omega)) (by simp), by simp [hl'], ?_⟩ (by simp)
    rw [hT', F.not_f d1, d2, F.not_f d3, d4]; simp

/- spec.IsHello -/
def isHel (h : Hello) : Bool := areVer h.versions && areEx h.exts
theorem ok142 (h : Hello) (hv : h.versions.length ≤ 1099511627776) (hl : h.exts.length ≤ 1099511627776) (w : ∀ y ∈ h.exts, y.body.length ≤ 1099511627776) {f0 f1 : Fl} (h0 : inFl f0 = true) (h1 : inFl f1 = true) : fix Tb md 142 [sHello (row fI h.versions) (row fExt h.exts) f0 f1] = some ⟨[B (isHel h)], [], none⟩ := by
  obtain ⟨a, ha⟩ : ∃ y_, y_ = areVer h.versions := ⟨_, rfl⟩
  obtain ⟨b, hb⟩ : ∃ y_, y_ = areEx h.exts := ⟨_, rfl⟩
  rw [show isHel h = (a && b) by rw [ha, hb]; rfl]
  generalize hr : (⟨_, [], none⟩ : Ret) = r
  obtain ⟨ea, hea⟩ : ∃ y_, y_ = row fI h.versions := ⟨_, rfl⟩
  obtain ⟨eb, heb⟩ : ∃ y_, y_ = row fExt h.exts := ⟨_, rfl⟩
  rw [← hea, ← heb]
  refine fix_fn2 (fn := ir142) tb_142 rfl rfl (by decide) rfl ?_; intro Q hQ; simp only [shutArgs, shutS, List.map_cons, List.map_nil, ir142, shut_in h0, shut_in h1, List.head?_nil, reduceCtorEq, if_false, sExt, sHello, sAnswer, sEdit, sDeal, sBox, sDialed, sKnown]
  intro add sub mul arith eq ne lt le gt ge neg conv mn mx not beq len at' ln bd cut app allS isNil mks set o hP F ho
  have c1 : o 257 [R ea (.sp 0 0)] = some ⟨[B a], [], none⟩ := by rw [ho, ha, hea]; exact ok257 _ hv rfl
  have c2 : o 271 [R eb (.sp 0 0)] = some ⟨[B b], [], none⟩ := by rw [ho, hb, heb]; exact ok271 _ hl w rfl
  cbv
  rw [c1]; cbv
  refine both (fun d1 => ?_) (fun d1 => ?_) <;> rw [d1] <;> cbv
  · rw [c2]; cbv
    rw [hQ]; cbv
    rw [← hr, d1]; rfl
  · rw [hQ]; cbv
    rw [← hr, d1]; rfl

def inLen (n : Int) (suf : List Int) : Bool := inR n 0 (suf.length : Int)
def inMin (n : Int) (suf : List Int) : Bool := inR n 0 (min 4 (suf.length : Int))
def lenNe (es : List Ext) (c : Int) : Bool := decide ((es.length : Int) ≠ c)
def decS (suf : List Int) (acc : List Ext) : Option (List Ext) := match suf with
  | [] => some acc
  | [_] => none
  | t :: n :: suf => if inLen n suf then decS (suf.drop n.toNat) (acc ++ [⟨t, suf.take n.toNat⟩]) else none
termination_by suf.length
decreasing_by simp; omega
def decR (c : Int) : Option (List Ext) → List Ext × Bool
  | none => ([], false)
  | some es => if lenNe es c then ([], false) else if areEx es then (es, true) else ([], false)
def decP : List Int → List Ext × Bool
  | [] => ([], false)
  | c :: rest => decR c (decS rest [])
def decI : Nat → List Int → List Ext → Option (List Ext × List Int)
  | 0, suf, acc => some (acc, suf)
  | k + 1, t :: n :: suf, acc => if inMin n suf then decI k (suf.drop n.toNat) (acc ++ [⟨t, suf.take n.toNat⟩]) else none
  | _ + 1, _, _ => none
def decF : Option (List Ext × List Int) → List Ext × Bool
  | none => ([], false)
  | some (es, suf) => if suf.isEmpty then (if areEx es then (es, true) else ([], false)) else ([], false)
def decQ : List Int → List Ext × Bool
  | [] => ([], false)
  | c :: rest => if inR c 0 6 then decF (decI c.toNat rest []) else ([], false)
theorem cut_mid {pre suf : List Int} {t n : Int} {k : Nat} : ((pre ++ t :: n :: suf).take (pre.length + 2 + k)).drop (pre.length + 2) = suf.take k := by
  rw [List.drop_take, show pre.length + 2 + k - (pre.length + 2) = k by omega, show pre ++ t :: n :: suf = (pre ++ [t, n]) ++ suf by simp, List.drop_left' (by simp)]
theorem inR_iff {n a b : Int} : inR n a b = true ↔ a ≤ n ∧ n ≤ b := by
  unfold inR; simp
theorem exOk_bodies : ∀ (suf pre : List Ext), exOk pre suf = true → ∀ y ∈ suf, y.body.length ≤ 4
  | [], _, _ => by simp
  | x :: suf, pre, h => by
    unfold exOk at h
    simp only [Bool.and_eq_true, Bool.not_eq_true', decide_eq_false_iff_not] at h
    intro y hy
    rcases List.mem_cons.1 hy with rfl | hy
    · have := h.1.1.1.2; omega
    · exact exOk_bodies suf _ h.2 y hy
theorem decS_I (k : Nat) : ∀ (suf : List Int) (acc es : List Ext), decS suf acc = some es → es.length = acc.length + k → (∀ y ∈ es, y.body.length ≤ 4) → decI k suf acc = some (es, []) := by
  induction k with
  | zero =>
    intro suf acc es h hl hw
    have key : ∀ (m : Nat) (suf : List Int) (acc es : List Ext), suf.length ≤ m → decS suf acc = some es → acc.length ≤ es.length ∧ (es.length = acc.length → suf = [] ∧ es = acc) := by
      intro m
      induction m with
      | zero =>
        intro suf acc es hm h
        have : suf = [] := List.length_eq_zero_iff.1 (by omega)
        subst this
        rw [decS] at h; cases h; exact ⟨by omega, fun _ => ⟨rfl, rfl⟩⟩
      | succ m ih =>
        intro suf acc es hm h
        rw [decS.eq_def] at h
        split at h
        · cases h; exact ⟨by omega, fun _ => ⟨rfl, rfl⟩⟩
        · cases h
        · split at h
          · have := ih _ _ _ (by simp at hm ⊢; omega) h
            simp only [List.length_append, List.length_cons, List.length_nil] at this
            exact ⟨by omega, fun hh => by omega⟩
          · cases h
    obtain ⟨rfl, rfl⟩ := (key _ suf acc es (Nat.le_refl _) h).2 hl
    rfl
  | succ k ih =>
    intro suf acc es h hl hw
    rw [decS.eq_def] at h
    split at h
    · cases h; omega
    · cases h
    · rename_i t n suf
      split at h
      · rename_i hn
        have h5 : (⟨t, suf.take n.toNat⟩ : Ext) ∈ es := decS_mem _ _ _ _ (Nat.le_refl _) h _ (by simp)
        have h6 := hw _ h5
        unfold inLen at hn
        rw [inR_iff] at hn
        simp only [List.length_take] at h6
        have hm : inMin n suf = true := by unfold inMin; rw [inR_iff]; omega
        unfold decI
        rw [if_pos hm]
        exact ih _ _ _ h (by simp; omega) hw
      · cases h
where
  decS_mem (m : Nat) : ∀ (suf : List Int) (acc es : List Ext), suf.length ≤ m → decS suf acc = some es → ∀ y ∈ acc, y ∈ es := by
    induction m with
    | zero =>
      intro suf acc es hm h y hy
      have : suf = [] := List.length_eq_zero_iff.1 (by omega)
      subst this
      rw [decS] at h; cases h; exact hy
    | succ m ih =>
      intro suf acc es hm h y hy
      rw [decS.eq_def] at h
      split at h
      · cases h; exact hy
      · cases h
      · split at h
        · exact ih _ _ _ (by simp at hm ⊢; omega) h y (by simp [hy])
        · cases h
theorem decI_S (k : Nat) : ∀ (suf : List Int) (acc es : List Ext), decI k suf acc = some (es, []) → decS suf acc = some es ∧ es.length = acc.length + k := by
  induction k with
  | zero =>
    intro suf acc es h
    simp only [decI, Option.some.injEq, Prod.mk.injEq] at h
    obtain ⟨rfl, rfl⟩ := h
    exact ⟨by rw [decS], rfl⟩
  | succ k ih =>
    intro suf acc es h
    match suf, h with
    | t :: n :: suf, h =>
      unfold decI at h
      split at h
      · rename_i hn
        obtain ⟨h1, h2⟩ := ih _ _ _ h
        have hm : inLen n suf = true := by
          unfold inMin at hn; unfold inLen; rw [inR_iff] at hn ⊢; omega
        refine ⟨by rw [decS, if_pos hm]; exact h1, by simp at h2; omega⟩
      · cases h
    | [], h => simp [decI] at h
    | [_], h => simp [decI] at h
theorem decP_Q (l : List Int) : decP l = decQ l := by
  match l with
  | [] => rfl
  | c :: rest =>
    show decR c (decS rest []) = (if inR c 0 6 = true then decF (decI c.toNat rest []) else ([], false))
    cases hT : decS rest [] with
    | none =>
      split
      · cases hI : decI c.toNat rest [] with
        | none => rfl
        | some p =>
          obtain ⟨es, suf⟩ := p
          cases suf with
          | nil => rw [(decI_S _ _ _ _ hI).1] at hT; cases hT
          | cons _ _ => rfl
      · rfl
    | some es =>
      show (if lenNe es c = true then ([], false) else if areEx es = true then (es, true) else ([], false)) = _
      by_cases h1 : lenNe es c = true
      · rw [if_pos h1]
        split
        · rename_i hc
          cases hI : decI c.toNat rest [] with
          | none => rfl
          | some p =>
            obtain ⟨es', suf⟩ := p
            cases suf with
            | nil =>
              obtain ⟨h2, h3⟩ := decI_S _ _ _ _ hI
              rw [h2] at hT; cases hT
              rw [inR_iff] at hc
              unfold lenNe at h1
              simp at h1 h3
              omega
            | cons _ _ => rfl
        · rfl
      · rw [if_neg h1]
        have hlen : (es.length : Int) = c := by unfold lenNe at h1; simpa using h1
        by_cases h2 : areEx es = true
        · rw [if_pos h2]
          have h2' := h2
          unfold areEx at h2
          simp only [Bool.and_eq_true, decide_eq_true_eq] at h2
          rw [if_pos (by rw [inR_iff]; omega), decS_I c.toNat rest [] es hT (by simp; omega) (exOk_bodies _ _ h2.1)]
          simp [decF, h2']
        · rw [if_neg h2]
          split
          · cases hI : decI c.toNat rest [] with
            | none => rfl
            | some p =>
              obtain ⟨es', suf⟩ := p
              cases suf with
              | nil =>
                obtain ⟨h4, _⟩ := decI_S _ _ _ _ hI
                rw [h4] at hT; cases hT
                simp [decF, h2]
              | cons _ _ => rfl
          · rfl
theorem decS_mid (m : Nat) : ∀ (suf : List Int) (acc es : List Ext), suf.length ≤ m → decS suf acc = some es → m ≤ 1048576 → acc.length + suf.length ≤ 1048576 → (∀ y ∈ acc, y.body.length ≤ 1048576) → es.length ≤ 1048576 ∧ ∀ y ∈ es, y.body.length ≤ 1048576 := by
  induction m with
  | zero =>
    intro suf acc es hm h _ ha hw
    have : suf = [] := List.length_eq_zero_iff.1 (by omega)
    subst this
    rw [decS] at h; cases h; exact ⟨by simpa using ha, hw⟩
  | succ m ih =>
    intro suf acc es hm h hmm ha hw
    rw [decS.eq_def] at h
    split at h
    · cases h; exact ⟨by simpa using ha, hw⟩
    · cases h
    · split at h
      · refine ih _ _ _ (by simp at hm ⊢; omega) h (by omega) (by simp at ha ⊢; omega) ?_
        intro y hy
        rcases List.mem_append.1 hy with hy | hy
        · exact hw y hy
        · simp at hy; subst hy; simp at hm ⊢; omega
      · cases h
theorem decP_mid {l : List Int} (hl : l.length ≤ 1048576) : (decP l).1.length ≤ 1048576 ∧ ∀ y ∈ (decP l).1, y.body.length ≤ 1048576 := by
  match l, hl with
  | [], _ => simp [decP]
  | c :: rest, hl =>
    show (decR c (decS rest [])).1.length ≤ _ ∧ ∀ y ∈ (decR c (decS rest [])).1, _
    cases hT : decS rest [] with
    | none => exact ⟨by simp [decR], by simp [decR]⟩
    | some es =>
      have := decS_mid rest.length rest [] es (Nat.le_refl _) hT (by simp at hl; omega) (by simp at hl ⊢; omega) (by simp)
      show (if lenNe es c then ([], false) else if areEx es then (es, true) else ([], false) : List Ext × Bool).1.length ≤ _ ∧ ∀ y ∈ (if lenNe es c then ([], false) else if areEx es then (es, true) else ([], false) : List Ext × Bool).1, _
      split
      · exact ⟨by simp, by simp⟩
      · split
        · exact this
        · exact ⟨by simp, by simp⟩
theorem decQ_mid {l : List Int} (hl : l.length ≤ 1048576) : (decQ l).1.length ≤ 1048576 ∧ ∀ y ∈ (decQ l).1, y.body.length ≤ 1048576 := by
  rw [← decP_Q]; exact decP_mid hl
theorem decQ_cases (l : List Int) : (∃ es, decQ l = (es, true)) ∨ decQ l = ([], false) := by
  match l with
  | [] => exact .inr rfl
  | c :: rest =>
    show (∃ es, (if inR c 0 6 = true then _ else _) = _) ∨ (if inR c 0 6 = true then _ else _) = _
    split
    · cases decI c.toNat rest [] with
      | none => exact .inr rfl
      | some p =>
        obtain ⟨es, suf⟩ := p
        unfold decF
        split
        · exact .inr rfl
        · rename_i h; cases h
          split
          · split
            · exact .inl ⟨_, rfl⟩
            · exact .inr rfl
          · exact .inr rfl
    · exact .inr rfl

/- spec.DecodeExts -/
theorem ok297_c (c : Int) (rest : List Int) (hl : rest.length ≤ 1073741824) {f0 : Fl} (h0 : inFl f0 = true) : fix Tb md 297 [R (row fI (c :: rest)) f0] = some ⟨[R (row fExt (decR c (decS rest [])).1) (.ow false), B (decR c (decS rest [])).2], [], none⟩ := by
  obtain ⟨T, hT⟩ : ∃ y_, y_ = decS rest [] := ⟨_, rfl⟩
  rw [← hT]
  generalize hr : (⟨_, [], none⟩ : Ret) = r
  have rF : decR c T = ([], false) → (⟨[R [] (.ow false), B false], [], none⟩ : Ret) = r := fun h => by rw [← hr, h]; rfl
  have rT : ∀ es, decR c T = (es, true) → (⟨[R (row fExt es) (.ow false), B true], [], none⟩ : Ret) = r := fun es h => by rw [← hr, h]
  clear hr
  obtain ⟨ea, hea⟩ : ∃ y_, y_ = row fI (c :: rest) := ⟨_, rfl⟩
  rw [← hea]
  refine fix_fn2 (fn := ir297) tb_297 rfl rfl (by decide) rfl ?_; intro Q hQ; simp only [shutArgs, shutS, List.map_cons, List.map_nil, ir297, shut_in h0, List.head?_nil, reduceCtorEq, if_false, sExt, sHello, sAnswer, sEdit, sDeal, sBox, sDialed, sKnown]
  intro add sub mul arith eq ne lt le gt ge neg conv mn mx not beq len at' ln bd cut app allS isNil mks set o hP F ho
  have la := F.len_at hea
  have g0 : eq (len ea) 0 = false := by rw [F.eq_n la (k := 0) (m := 0) rfl]; simp
  obtain ⟨ix0, hix0⟩ : ∃ y_, y_ = ([] : List Int).length * 1 := ⟨_, rfl⟩
  have p00 : at' 1 ea 0 = some (ix0, [.int .i64 c]) := by rw [hix0]; exact F.get (pre := []) (i := 0) (show At 0 0 from rfl) hea rfl (fun _ => rfl) (by decide)
  cbv
  rw [g0]; cbv
  refine loop_ind2 hP (σ := List Int × List Int × List Ext × List (List V) × Int × Option Int) (fun s => match s.2.2.2.2.2 with
      | none => [(0, R ea .sh), (2, R [] .nl), (3, B false), (4, R s.2.2.2.1 (.ow false)), (5, I s.2.2.2.2.1)]
      | some j => [(0, R ea .sh), (2, R [] .nl), (3, B false), (4, R s.2.2.2.1 (.ow false)), (5, I s.2.2.2.2.1), (6, I j)]) (fun s => At s.2.2.2.2.1 s.2.1.length ∧ c :: rest = s.2.1 ++ s.1 ∧ s.2.2.2.1 = row fExt s.2.2.1 ∧ decS s.1 s.2.2.1 = T ∧ s.2.2.1.length ≤ s.2.1.length ∧ ∀ y ∈ s.2.2.1, y.body.length ≤ 1073741824) (fun s => s.1.length) (rest, [c], [], [], 1, none) rfl ⟨rfl, rfl, rfl, hT.symm, by simp, by simp⟩ ?_
  intro c1 Q1 hc1 hQ1
  rintro ⟨suf, pre, acc, eo, i, j⟩ ⟨hi, hl', hb, hd, hk, hw⟩ ih
  simp only at hi hl' hb hd hk hw ih
  have hpre : pre.length ≤ 1073741825 := by have := congrArg List.length hl'; simp at this; omega
  have hi1 : At (add .i64 i 1) (pre.length + 1) := F.inc hi (by omega)
  have lo := F.len_at hb
  cases j with
  | none =>
    cbv
    match suf, hl', hd, ih with
    | [], hl', hd, ih =>
      have hT' : T = some acc := by rw [← hd, decS]
      have g1 : lt (add .i64 i 1) (len ea) = false := F.lt_f hi1 la (by simp [hl'])
      have g2 : ne i (len ea) = false := F.ne_f (by have hi := hi; have la := la; unfold At at hi la; rw [hi, la, hl']; simp)
      obtain ⟨u, hu⟩ : ∃ y_, y_ = lenNe acc c := ⟨_, rfl⟩
      have g3 : ne (len eo) c = u := by rw [F.ne, hu, lenNe]; unfold At at lo; rw [lo]
      obtain ⟨v, hv⟩ : ∃ y_, y_ = areEx acc := ⟨_, rfl⟩
      have c2 : o 271 [R eo (.sp 0 0)] = some ⟨[B v], [], none⟩ := by rw [ho, hv, hb]; exact ok271 _ (by omega) (fun y hy => Nat.le_trans (hw y hy) (by decide)) rfl
      rw [g1]; cbv
      rw [hQ1]; cbv
      rw [g2]; cbv
      rw [p00]; cbv
      rw [g3]; cbv
      refine both (fun d => ?_) (fun d => ?_) <;> rw [d] <;> cbv
      · rw [hQ]; cbv
        exact congrArg some (rF (by rw [hT', decR, ← hu, d]; rfl))
      rw [c2]; cbv
      refine both (fun d2 => ?_) (fun d2 => ?_) <;> rw [d2] <;> cbv
      · rw [hQ]; cbv
        exact congrArg some (rF (by rw [hT', decR, ← hu, d, ← hv, F.not_t d2]; rfl))
      · rw [hQ]; cbv
        rw [hb]
        exact congrArg some (rT acc (by rw [hT', decR, ← hu, d, ← hv, F.not_f d2]; rfl))
    | [t], hl', hd, ih =>
      have hT' : T = none := by rw [← hd, decS]
      have g1 : lt (add .i64 i 1) (len ea) = false := F.lt_f hi1 la (by simp [hl'])
      have g2 : ne i (len ea) = true := F.ne_t (by have hi := hi; have la := la; unfold At at hi la; rw [hi, la, hl']; simp; omega)
      rw [g1]; cbv
      rw [hQ1]; cbv
      rw [g2]; cbv
      rw [hQ]; cbv
      exact congrArg some (rF (by rw [hT']; rfl))
    | t :: n :: suf, hl', hd, ih =>
      obtain ⟨b1, hb1⟩ : ∃ y_, y_ = inLen n suf := ⟨_, rfl⟩
      obtain ⟨ix1, hix1⟩ : ∃ y_, y_ = pre.length * 1 := ⟨_, rfl⟩
      obtain ⟨ix2, hix2⟩ : ∃ y_, y_ = (pre ++ [t]).length * 1 := ⟨_, rfl⟩
      have hlen : pre.length + 2 + suf.length = rest.length + 1 := by have := congrArg List.length hl'; simp at this; omega
      have g1 : lt (add .i64 i 1) (len ea) = true := F.lt_t hi1 la (by simp [hl'])
      have p0 : at' 1 ea i = some (ix1, [.int .i64 t]) := by rw [hix1]; exact F.get hi hea hl' (fun _ => rfl) (by decide)
      have p1 : at' 1 ea (add .i64 i 1) = some (ix2, [.int .i64 n]) := by rw [hix2]; exact F.get (pre := pre ++ [t]) (suf := suf) (at_len hi1 (by simp)) hea (by rw [hl']; simp) (fun _ => rfl) (by decide)
      have hs : sub .i64 (sub .i64 (len ea) i) 2 = (suf.length : Int) := by
        unfold At at hi la
        have h3 : sub .i64 (len ea) i = (suf.length : Int) + 2 := by rw [F.sub, la, hi, wrap64 (by simp; omega) (by simp; omega)]; simp; omega
        rw [F.sub, h3, wrap64 (by omega) (by omega)]; omega
      have c3 : o 230 [I n, I 0, I (sub .i64 (sub .i64 (len ea) i) 2)] = some ⟨[B b1], [], none⟩ := by rw [ho, hs, hb1]; exact ok230 ..
      rw [decS, ← hb1] at hd
      rw [g1]; cbv
      rw [p1]; cbv
      rw [c3]; cbv
      refine both (fun d1 => ?_) (fun d1 => ?_) <;> rw [d1] <;> cbv
      · rw [hQ1]; cbv
        rw [hQ]; cbv
        exact congrArg some (rF (by rw [← hd, F.not_t d1]; rfl))
      have hb1' : b1 = true := F.not_f d1
      rw [hb1', if_pos rfl] at hd
      obtain ⟨hn0, hn1⟩ : 0 ≤ n ∧ n ≤ (suf.length : Int) := by rw [hb1'] at hb1; have hb1 := hb1.symm; unfold inLen at hb1; rwa [inR_iff] at hb1
      obtain ⟨k, hk⟩ : ∃ y_, y_ = n.toNat := ⟨_, rfl⟩
      rw [← hk] at hd
      have hkn : n = (k : Int) := by omega
      have hks : k ≤ suf.length := by omega
      obtain ⟨h, hh⟩ : ∃ y_, y_ = pre.length + 2 + k := ⟨_, rfl⟩
      obtain ⟨lw, hlw⟩ : ∃ y_, y_ = pre.length + 2 := ⟨_, rfl⟩
      have hi2 : At (add .i64 i 2) lw := by unfold At at hi ⊢; rw [F.add, hi, wrap64 (by omega) (by omega), hlw]; omega
      have hi3 : At (add .i64 (add .i64 i 2) n) h := by
        unfold At at hi2 ⊢; rw [F.add, hi2, wrap64 (by omega) (by omega), hh, hlw]; omega
      obtain ⟨eb, heb⟩ : ∃ y_, y_ = row fI (suf.take k) := ⟨_, rfl⟩
      have q1 : bd (ln ea) (add .i64 (add .i64 i 2) n) = some h := by rw [F.ln' hea]; exact F.bd' hi3 (by rw [hl', hh]; simp; omega)
      have q2 : bd h (add .i64 i 2) = some lw := F.bd' hi2 (by omega)
      have q3 : cut 1 ea h lw = some eb := by rw [F.cut' hea (fun _ => rfl), heb, hl', hh, hlw, cut_mid]
      obtain ⟨eo', heo'⟩ : ∃ y_, y_ = row fExt (acc ++ [⟨t, suf.take k⟩]) := ⟨_, rfl⟩
      have q4 : allS eb = true := F.scal heb (fun _ => rfl)
      have q5 : app 1 [] eb = some eb := F.app_nil heb (fun _ => rfl) (by simp; omega)
      have q6 : allS [[.int .i64 t, .row () eb]] = false := by rw [F.allS]; rfl
      have q7 : app 2 eo [[.int .i64 t, .row () eb]] = some eo' := by rw [heo', heb]; exact F.push hb (fun _ => rfl) rfl (by omega)
      rw [p0]; cbv
      rw [q1]; cbv
      rw [q2]; cbv
      rw [q3]; cbv
      rw [q4]; cbv
      rw [q5]; cbv
      rw [q6]; cbv
      rw [q7]; cbv
      refine ih (suf.drop k, pre ++ t :: n :: suf.take k, acc ++ [⟨t, suf.take k⟩], eo', add .i64 (add .i64 i 2) n, some n) ⟨at_len hi3 (by rw [hh]; simp; omega), ?_, heo', hd, by simp; omega, ?_⟩ (by simp; omega)
      · simp only; rw [hl']; simp
      · intro y hy
        rcases List.mem_append.1 hy with hy | hy
        · exact hw y hy
        · simp at hy; subst hy; simp; omega
  | some jj =>
    cbv
    match suf, hl', hd, ih with
    | [], hl', hd, ih =>
      have hT' : T = some acc := by rw [← hd, decS]
      have g1 : lt (add .i64 i 1) (len ea) = false := F.lt_f hi1 la (by simp [hl'])
      have g2 : ne i (len ea) = false := F.ne_f (by have hi := hi; have la := la; unfold At at hi la; rw [hi, la, hl']; simp)
      obtain ⟨u, hu⟩ : ∃ y_, y_ = lenNe acc c := ⟨_, rfl⟩
      have g3 : ne (len eo) c = u := by rw [F.ne, hu, lenNe]; unfold At at lo; rw [lo]
      obtain ⟨v, hv⟩ : ∃ y_, y_ = areEx acc := ⟨_, rfl⟩
      have c2 : o 271 [R eo (.sp 0 0)] = some ⟨[B v], [], none⟩ := by rw [ho, hv, hb]; exact ok271 _ (by omega) (fun y hy => Nat.le_trans (hw y hy) (by decide)) rfl
      rw [g1]; cbv
      rw [hQ1]; cbv
      rw [g2]; cbv
      rw [p00]; cbv
      rw [g3]; cbv
      refine both (fun d => ?_) (fun d => ?_) <;> rw [d] <;> cbv
      · rw [hQ]; cbv
        exact congrArg some (rF (by rw [hT', decR, ← hu, d]; rfl))
      rw [c2]; cbv
      refine both (fun d2 => ?_) (fun d2 => ?_) <;> rw [d2] <;> cbv
      · rw [hQ]; cbv
        exact congrArg some (rF (by rw [hT', decR, ← hu, d, ← hv, F.not_t d2]; rfl))
      · rw [hQ]; cbv
        rw [hb]
        exact congrArg some (rT acc (by rw [hT', decR, ← hu, d, ← hv, F.not_f d2]; rfl))
    | [t], hl', hd, ih =>
      have hT' : T = none := by rw [← hd, decS]
      have g1 : lt (add .i64 i 1) (len ea) = false := F.lt_f hi1 la (by simp [hl'])
      have g2 : ne i (len ea) = true := F.ne_t (by have hi := hi; have la := la; unfold At at hi la; rw [hi, la, hl']; simp; omega)
      rw [g1]; cbv
      rw [hQ1]; cbv
      rw [g2]; cbv
      rw [hQ]; cbv
      exact congrArg some (rF (by rw [hT']; rfl))
    | t :: n :: suf, hl', hd, ih =>
      obtain ⟨b1, hb1⟩ : ∃ y_, y_ = inLen n suf := ⟨_, rfl⟩
      obtain ⟨ix1, hix1⟩ : ∃ y_, y_ = pre.length * 1 := ⟨_, rfl⟩
      obtain ⟨ix2, hix2⟩ : ∃ y_, y_ = (pre ++ [t]).length * 1 := ⟨_, rfl⟩
      have hlen : pre.length + 2 + suf.length = rest.length + 1 := by have := congrArg List.length hl'; simp at this; omega
      have g1 : lt (add .i64 i 1) (len ea) = true := F.lt_t hi1 la (by simp [hl'])
      have p0 : at' 1 ea i = some (ix1, [.int .i64 t]) := by rw [hix1]; exact F.get hi hea hl' (fun _ => rfl) (by decide)
      have p1 : at' 1 ea (add .i64 i 1) = some (ix2, [.int .i64 n]) := by rw [hix2]; exact F.get (pre := pre ++ [t]) (suf := suf) (at_len hi1 (by simp)) hea (by rw [hl']; simp) (fun _ => rfl) (by decide)
      have hs : sub .i64 (sub .i64 (len ea) i) 2 = (suf.length : Int) := by
        unfold At at hi la
        have h3 : sub .i64 (len ea) i = (suf.length : Int) + 2 := by rw [F.sub, la, hi, wrap64 (by simp; omega) (by simp; omega)]; simp; omega
        rw [F.sub, h3, wrap64 (by omega) (by omega)]; omega
      have c3 : o 230 [I n, I 0, I (sub .i64 (sub .i64 (len ea) i) 2)] = some ⟨[B b1], [], none⟩ := by rw [ho, hs, hb1]; exact ok230 ..
      rw [decS, ← hb1] at hd
      rw [g1]; cbv
      rw [p1]; cbv
      rw [c3]; cbv
      refine both (fun d1 => ?_) (fun d1 => ?_) <;> rw [d1] <;> cbv
      · rw [hQ1]; cbv
        rw [hQ]; cbv
        exact congrArg some (rF (by rw [← hd, F.not_t d1]; rfl))
      have hb1' : b1 = true := F.not_f d1
      rw [hb1', if_pos rfl] at hd
      obtain ⟨hn0, hn1⟩ : 0 ≤ n ∧ n ≤ (suf.length : Int) := by rw [hb1'] at hb1; have hb1 := hb1.symm; unfold inLen at hb1; rwa [inR_iff] at hb1
      obtain ⟨k, hk⟩ : ∃ y_, y_ = n.toNat := ⟨_, rfl⟩
      rw [← hk] at hd
      have hkn : n = (k : Int) := by omega
      have hks : k ≤ suf.length := by omega
      obtain ⟨h, hh⟩ : ∃ y_, y_ = pre.length + 2 + k := ⟨_, rfl⟩
      obtain ⟨lw, hlw⟩ : ∃ y_, y_ = pre.length + 2 := ⟨_, rfl⟩
      have hi2 : At (add .i64 i 2) lw := by unfold At at hi ⊢; rw [F.add, hi, wrap64 (by omega) (by omega), hlw]; omega
      have hi3 : At (add .i64 (add .i64 i 2) n) h := by
        unfold At at hi2 ⊢; rw [F.add, hi2, wrap64 (by omega) (by omega), hh, hlw]; omega
      obtain ⟨eb, heb⟩ : ∃ y_, y_ = row fI (suf.take k) := ⟨_, rfl⟩
      have q1 : bd (ln ea) (add .i64 (add .i64 i 2) n) = some h := by rw [F.ln' hea]; exact F.bd' hi3 (by rw [hl', hh]; simp; omega)
      have q2 : bd h (add .i64 i 2) = some lw := F.bd' hi2 (by omega)
      have q3 : cut 1 ea h lw = some eb := by rw [F.cut' hea (fun _ => rfl), heb, hl', hh, hlw, cut_mid]
      obtain ⟨eo', heo'⟩ : ∃ y_, y_ = row fExt (acc ++ [⟨t, suf.take k⟩]) := ⟨_, rfl⟩
      have q4 : allS eb = true := F.scal heb (fun _ => rfl)
      have q5 : app 1 [] eb = some eb := F.app_nil heb (fun _ => rfl) (by simp; omega)
      have q6 : allS [[.int .i64 t, .row () eb]] = false := by rw [F.allS]; rfl
      have q7 : app 2 eo [[.int .i64 t, .row () eb]] = some eo' := by rw [heo', heb]; exact F.push hb (fun _ => rfl) rfl (by omega)
      rw [p0]; cbv
      rw [q1]; cbv
      rw [q2]; cbv
      rw [q3]; cbv
      rw [q4]; cbv
      rw [q5]; cbv
      rw [q6]; cbv
      rw [q7]; cbv
      refine ih (suf.drop k, pre ++ t :: n :: suf.take k, acc ++ [⟨t, suf.take k⟩], eo', add .i64 (add .i64 i 2) n, some n) ⟨at_len hi3 (by rw [hh]; simp; omega), ?_, heo', hd, by simp; omega, ?_⟩ (by simp; omega)
      · simp only; rw [hl']; simp
      · intro y hy
        rcases List.mem_append.1 hy with hy | hy
        · exact hw y hy
        · simp at hy; subst hy; simp; omega
theorem ok297 (l : List Int) (hl : l.length ≤ 1073741824) {f0 : Fl} (h0 : inFl f0 = true) : fix Tb md 297 [R (row fI l) f0] = some ⟨[R (row fExt (decP l).1) (.ow false), B (decP l).2], [], none⟩ := by
  cases l with
  | cons c rest => exact ok297_c c rest (by simp at hl; omega) h0
  | nil =>
    show fix Tb md 297 [R [] f0] = some ⟨[R [] (.ow false), B false], [], none⟩
    generalize hr : (⟨_, [], none⟩ : Ret) = r
    refine fix_fn2 (fn := ir297) tb_297 rfl rfl (by decide) rfl ?_; intro Q hQ; simp only [shutArgs, shutS, List.map_cons, List.map_nil, ir297, shut_in h0, List.head?_nil, reduceCtorEq, if_false, sExt, sHello, sAnswer, sEdit, sDeal, sBox, sDialed, sKnown]
    intro add sub mul arith eq ne lt le gt ge neg conv mn mx not beq len at' ln bd cut app allS isNil mks set o hP F ho
    have g0 : eq (len []) 0 = true := by rw [F.eq, F.len]; rfl
    cbv
    rw [g0]; cbv
    rw [hQ]; cbv
    exact congrArg some hr

def inOne (n : Int) (rest : List Int) : Bool := inR n 1 (rest.length : Int)
def inNine (n : Int) (rest : List Int) : Bool := inR n 1 (min 9 (rest.length : Int))
def rdK (vs : List Int) (e : List Ext × Bool) : Hello × Bool := if e.2 then (if isHel ⟨vs, e.1⟩ then (⟨vs, e.1⟩, true) else (⟨[], []⟩, false)) else (⟨[], []⟩, false)
def rdG : List Int → Hello × Bool
  | [] => (⟨[], []⟩, false)
  | n :: rest => if inOne n rest then rdK (rest.take n.toNat) (decP (rest.drop n.toNat)) else (⟨[], []⟩, false)
def rdI : List Int → Hello × Bool
  | [] => (⟨[], []⟩, false)
  | n :: rest => if inNine n rest then rdK (rest.take n.toNat) (decQ (rest.drop n.toNat)) else (⟨[], []⟩, false)
def rdV (l : List Int) : Hello := (rdG l).1
def rdOk (l : List Int) : Bool := (rdG l).2
theorem rdK_cases (vs : List Int) (e : List Ext × Bool) : (∃ h, rdK vs e = (h, true)) ∨ rdK vs e = (⟨[], []⟩, false) := by
  unfold rdK; split
  · split
    · exact .inl ⟨_, rfl⟩
    · exact .inr rfl
  · exact .inr rfl
theorem rdG_cases (l : List Int) : (∃ h, rdG l = (h, true)) ∨ rdG l = (⟨[], []⟩, false) := by
  match l with
  | [] => exact .inr rfl
  | n :: rest =>
    show (∃ h, (if inOne n rest then _ else _) = _) ∨ (if inOne n rest then _ else _) = _
    split
    · exact rdK_cases _ _
    · exact .inr rfl
theorem verLen : ∀ (suf pre : List Int) (m : Int), ((pre.getLast? = none ∧ m = 0) ∨ pre.getLast? = some m) → m ≤ 9 → verGo pre suf = true → (suf.length : Int) + m ≤ 9
  | [], _, m, _, h, _ => by simpa using h
  | x :: suf, pre, m, hm, h, hv => by
    unfold verGo at hv
    simp only [Bool.and_eq_true] at hv
    obtain ⟨⟨h1, h2⟩, h3⟩ := hv
    rw [inR_iff] at h1
    have := verLen suf (pre ++ [x]) x (.inr (by simp)) h1.2 h3
    have hx : m + 1 ≤ x := by
      rcases hm with ⟨_, rfl⟩ | hm
      · omega
      · rw [hm] at h2; simp at h2; omega
    simp only [List.length_cons]
    omega
theorem rdG_I (l : List Int) : rdG l = rdI l := by
  match l with
  | [] => rfl
  | n :: rest =>
    show (if inOne n rest then rdK (rest.take n.toNat) (decP (rest.drop n.toNat)) else (⟨[], []⟩, false)) = (if inNine n rest then rdK (rest.take n.toNat) (decQ (rest.drop n.toNat)) else (⟨[], []⟩, false))
    rw [← decP_Q]
    by_cases h9 : inNine n rest = true
    · have h1 : inOne n rest = true := by unfold inNine at h9; unfold inOne; rw [inR_iff] at h9 ⊢; omega
      rw [if_pos h1, if_pos h9]
    · rw [if_neg h9]
      split
      · rename_i h1
        rcases rdK_cases (rest.take n.toNat) (decP (rest.drop n.toNat)) with ⟨h, hk⟩ | hk
        · exfalso
          apply h9
          unfold rdK at hk
          split at hk
          · split at hk
            · rename_i hh
              unfold isHel areVer at hh
              simp only [Bool.and_eq_true] at hh
              have := verLen _ [] 0 (.inl ⟨rfl, rfl⟩) (by omega) hh.1.1
              simp only [List.length_take] at this
              unfold inOne at h1; unfold inNine
              rw [inR_iff] at h1 ⊢
              omega
            · cases hk
          · cases hk
        · exact hk
      · rfl
theorem cut_head {n : Int} {rest : List Int} {k : Nat} : ((n :: rest).take (1 + k)).drop 1 = rest.take k := by
  rw [show 1 + k = k + 1 by omega]; rfl
theorem cut_tail {n : Int} {rest : List Int} {k : Nat} : ((n :: rest).take (n :: rest).length).drop (1 + k) = rest.drop k := by
  rw [List.take_length, show 1 + k = k + 1 by omega]; rfl
theorem rdK_mid {vs : List Int} {e : List Ext × Bool} (h1 : vs.length ≤ 1048576) (h2 : e.1.length ≤ 1048576 ∧ ∀ y ∈ e.1, y.body.length ≤ 1048576) : (rdK vs e).1.Mid := by
  have h0 : (⟨[], []⟩ : Hello).Mid := ⟨by simp, by simp, by simp⟩
  unfold rdK
  split
  · split
    · exact ⟨Nat.le_trans h1 (by decide), Nat.le_trans h2.1 (by decide), fun y hy => Nat.le_trans (h2.2 y hy) (by decide)⟩
    · exact h0
  · exact h0
theorem rdV_mid {l : List Int} (hl : l.length ≤ 1048576) : (rdV l).Mid := by
  have h0 : (⟨[], []⟩ : Hello).Mid := ⟨by simp, by simp, by simp⟩
  match l, hl with
  | [], _ => exact h0
  | n :: rest, hl =>
    show (if inOne n rest then rdK (rest.take n.toNat) (decP (rest.drop n.toNat)) else (⟨[], []⟩, false)).1.Mid
    simp only [List.length_cons] at hl
    split
    · exact rdK_mid (by simp; omega) (decP_mid (by simp; omega))
    · exact h0

/- spec.ReadHello -/
theorem ok157_c (n : Int) (rest : List Int) (hl : rest.length ≤ 1048576) {f0 : Fl} (h0 : inFl f0 = true) (r : Ret) (rF : rdG (n :: rest) = (⟨[], []⟩, false) → (⟨[sHello [] [] .nl .nl, B false], [], none⟩ : Ret) = r) (rT : ∀ h, rdG (n :: rest) = (h, true) → (⟨[sHello (row fI h.versions) (row fExt h.exts) (.ow false) (.ow false), B true], [], none⟩ : Ret) = r) : fix Tb md 157 [R (row fI (n :: rest)) f0] = some r := by
  obtain ⟨b1, hb1⟩ : ∃ y_, y_ = inOne n rest := ⟨_, rfl⟩
  obtain ⟨k, hk⟩ : ∃ y_, y_ = n.toNat := ⟨_, rfl⟩
  have hG : rdG (n :: rest) = if b1 = true then rdK (rest.take k) (decP (rest.drop k)) else (⟨[], []⟩, false) := by rw [hb1, hk]; rfl
  rw [hG] at rF rT
  clear hG
  have hin : b1 = true → 1 ≤ n ∧ n = (k : Int) ∧ k ≤ rest.length := by
    intro h
    rw [hb1] at h
    unfold inOne at h
    rw [inR_iff] at h
    omega
  obtain ⟨W, hW⟩ : ∃ y_, y_ = rest.take k := ⟨_, rfl⟩
  obtain ⟨D, hD⟩ : ∃ y_, y_ = decP (rest.drop k) := ⟨_, rfl⟩
  have hwl : W.length ≤ 1048576 := by rw [hW]; simp; omega
  have hml : D.1.length ≤ 1048576 ∧ ∀ y ∈ D.1, y.body.length ≤ 1048576 := by rw [hD]; exact decP_mid (by simp; omega)
  rw [← hW, ← hD] at rF rT
  obtain ⟨ea, hea⟩ : ∃ y_, y_ = row fI (n :: rest) := ⟨_, rfl⟩
  rw [← hea]
  obtain ⟨ex, hex⟩ : ∃ y_, y_ = row fExt D.1 := ⟨_, rfl⟩
  obtain ⟨ev, hev⟩ : ∃ y_, y_ = row fI W := ⟨_, rfl⟩
  obtain ⟨eb, heb⟩ : ∃ y_, y_ = row fI (rest.drop k) := ⟨_, rfl⟩
  obtain ⟨u, hu⟩ : ∃ y_, y_ = isHel ⟨W, D.1⟩ := ⟨_, rfl⟩
  have rF1 : b1 = false → (⟨[sHello [] [] .nl .nl, B false], [], none⟩ : Ret) = r := fun h => rF (by rw [h]; rfl)
  have rF2 : b1 = true → D.2 = false → (⟨[sHello [] [] .nl .nl, B false], [], none⟩ : Ret) = r := fun h h2 => rF (by rw [h, if_pos rfl, rdK, h2]; rfl)
  have rF3 : b1 = true → u = false → (⟨[sHello [] [] .nl .nl, B false], [], none⟩ : Ret) = r := fun h h3 => rF (by rw [h, if_pos rfl, rdK, ← hu, h3]; simp)
  have rT1 : b1 = true → D.2 = true → u = true → (⟨[sHello ev ex (.ow false) (.ow false), B true], [], none⟩ : Ret) = r := fun h h2 h3 => by
    rw [hev, hex]; exact rT ⟨W, D.1⟩ (by rw [h, if_pos rfl, rdK, ← hu, h2, h3]; rfl)
  clear rF rT
  refine fix_fn2 (fn := ir157) tb_157 rfl rfl (by decide) rfl ?_; intro Q hQ; simp only [shutArgs, shutS, List.map_cons, List.map_nil, ir157, shut_in h0, List.head?_nil, reduceCtorEq, if_false, sExt, sHello, sAnswer, sEdit, sDeal, sBox, sDialed, sKnown]
  intro add sub mul arith eq ne lt le gt ge neg conv mn mx not beq len at' ln bd cut app allS isNil mks set o hP F ho
  have la := F.len_at hea
  have g0 : eq (len ea) 0 = false := by rw [F.eq_n la (k := 0) (m := 0) rfl]; simp
  obtain ⟨ix0, hix0⟩ : ∃ y_, y_ = ([] : List Int).length * 1 := ⟨_, rfl⟩
  have p00 : at' 1 ea 0 = some (ix0, [.int .i64 n]) := by rw [hix0]; exact F.get (pre := []) (i := 0) (show At 0 0 from rfl) hea rfl (fun _ => rfl) (by decide)
  have hs : sub .i64 (len ea) 1 = (rest.length : Int) := by
    unfold At at la
    rw [F.sub, la, wrap64 (by simp only [List.length_cons, Int.natCast_add]; omega) (by simp only [List.length_cons, Int.natCast_add]; omega)]; simp only [List.length_cons, Int.natCast_add]; omega
  have c1 : o 230 [I n, I 1, I (sub .i64 (len ea) 1)] = some ⟨[B b1], [], none⟩ := by rw [ho, hs, hb1]; exact ok230 ..
  obtain ⟨h, hh⟩ : ∃ y_, y_ = 1 + k := ⟨_, rfl⟩
  have hq : b1 = true → bd (ln ea) (add .i64 1 n) = some h := fun hb => by
    obtain ⟨h1, h2, h3⟩ := hin hb
    rw [F.ln' hea]; refine F.bd' ?_ (by rw [hh]; simp; omega)
    unfold At; rw [F.add, wrap64 (by omega) (by omega), hh, h2]; omega
  have q2 : cut 1 ea (ln ea) h = some eb := by rw [F.ln' hea, F.cut' hea (fun _ => rfl), heb, hh, cut_tail]
  obtain ⟨one, hone⟩ : ∃ y_, y_ = 1 := ⟨_, rfl⟩
  have q3 : bd h 1 = some one := by rw [hone]; exact F.bd' (show At 1 1 from rfl) (by omega)
  have q4 : cut 1 ea h one = some ev := by rw [F.cut' hea (fun _ => rfl), hev, hh, hone, cut_head, hW]
  have q5 : allS ev = true := F.scal hev (fun _ => rfl)
  have q6 : app 1 [] ev = some ev := F.app_nil hev (fun _ => rfl) (by omega)
  obtain ⟨dk, hdk⟩ : ∃ y_, y_ = D.2 := ⟨_, rfl⟩
  have c2 : o 297 [R eb (.sp 0 0)] = some ⟨[R ex (.ow false), B dk], [], none⟩ := by rw [ho, heb, hex, hdk, hD]; exact ok297 _ (by simp; omega) rfl
  rw [← hdk] at rF2 rT1
  have c4 : o 142 [sHello ev ex (.sp 0 0) (.sp 0 1)] = some ⟨[B u], [], none⟩ := by rw [ho, hu, hev, hex]; exact ok142 ⟨W, D.1⟩ (by simp only; omega) (by simp only; omega) (fun y hy => Nat.le_trans (hml.2 y hy) (by decide)) rfl rfl
  cbv
  rw [g0]; cbv
  rw [p00]; cbv
  rw [c1]; cbv
  refine both (fun d => ?_) (fun d => ?_) <;> rw [d] <;> cbv
  · rw [hQ]; cbv
    exact congrArg some (rF1 (F.not_t d))
  have hb := F.not_f d
  have q1 := hq hb
  rw [p00]; cbv
  rw [q1]; cbv
  rw [q2]; cbv
  rw [c2]; cbv
  rw [p00]; cbv
  rw [q1]; cbv
  rw [q3]; cbv
  rw [q4]; cbv
  rw [q5]; cbv
  rw [q6]; cbv
  refine both (fun d2 => ?_) (fun d2 => ?_) <;> rw [d2] <;> cbv
  · rw [hQ]; cbv
    exact congrArg some (rF2 hb (F.not_t d2))
  rw [c4]; cbv
  refine both (fun d3 => ?_) (fun d3 => ?_) <;> rw [d3] <;> cbv
  · rw [hQ]; cbv
    exact congrArg some (rF3 hb (F.not_t d3))
  · rw [hQ]; cbv
    exact congrArg some (rT1 hb (F.not_f d2) (F.not_f d3))
theorem ok157 (l : List Int) (hl : l.length ≤ 1048576) {f0 : Fl} (h0 : inFl f0 = true) :
    fix Tb md 157 [R (row fI l) f0] = some ⟨[sHello (row fI (rdV l).versions) (row fExt (rdV l).exts) (.ow false) (.ow false), B (rdOk l)], [], none⟩ ∨
    ((rdV l).versions = [] ∧ (rdV l).exts = [] ∧ fix Tb md 157 [R (row fI l) f0] = some ⟨[sHello [] [] .nl .nl, B (rdOk l)], [], none⟩) := by
  unfold rdV rdOk
  cases l with
  | cons n rest =>
    rcases rdG_cases (n :: rest) with ⟨h, hg⟩ | hg
    · rw [hg]
      exact .inl (ok157_c n rest (by simp at hl; omega) h0 _ (fun h2 => by rw [hg] at h2; cases h2) (fun h2 h3 => by rw [hg] at h3; cases h3; rfl))
    · rw [hg]
      exact .inr ⟨rfl, rfl, ok157_c n rest (by simp at hl; omega) h0 _ (fun _ => rfl) (fun h2 h3 => by rw [hg] at h3; cases h3)⟩
  | nil =>
    refine .inr ⟨rfl, rfl, ?_⟩
    show fix Tb md 157 [R [] f0] = some ⟨[sHello [] [] .nl .nl, B false], [], none⟩
    generalize hr : (⟨_, [], none⟩ : Ret) = r
    refine fix_fn2 (fn := ir157) tb_157 rfl rfl (by decide) rfl ?_; intro Q hQ; simp only [shutArgs, shutS, List.map_cons, List.map_nil, ir157, shut_in h0, List.head?_nil, reduceCtorEq, if_false, sExt, sHello, sAnswer, sEdit, sDeal, sBox, sDialed, sKnown]
    intro add sub mul arith eq ne lt le gt ge neg conv mn mx not beq len at' ln bd cut app allS isNil mks set o hP F ho
    have g0 : eq (len []) 0 = true := by rw [F.eq, F.len]; rfl
    cbv
    rw [g0]; cbv
    rw [hQ]; cbv
    exact congrArg some hr

/- impl.InRange -/
theorem ok232 (x lo hi : Int) : fix Tb md 232 [I x, I lo, I hi] = some ⟨[B (inR x lo hi)], [], none⟩ := by
  refine fix_fn (fn := ir232) tb_232 rfl rfl (by decide) rfl ?_; simp only [shutArgs, shutS, List.map_cons, List.map_nil, ir232, List.head?_nil, reduceCtorEq, if_false, sExt, sHello, sAnswer, sEdit, sDeal, sBox, sDialed, sKnown]
  generalize hr : (⟨_, [], none⟩ : Ret) = r
  intro add sub mul arith eq ne lt le gt ge neg conv mn mx not beq len at' ln bd cut app allS isNil mks set o hP F ho
  cbv
  repeat' (first | (refine both (fun c => ?_) (fun c => ?_) <;> (try rw [c]) <;> (try cbv)))
  all_goals (clear hP  ho; try simp only [F.eq, F.ne, F.le, F.lt, F.ge, F.gt, F.not, F.beq] at *; clear F; subst hr)
  all_goals (simp_all [inR] <;> (intros; omega))

/- impl.AreVersions -/
theorem ok255 (l : List Int) (hl : l.length ≤ 1099511627776) {f0 : Fl} (h0 : inFl f0 = true) : fix Tb md 255 [R (row fI l) f0] = some ⟨[B (areVer l)], [], none⟩ := by
  obtain ⟨T, hT⟩ : ∃ y_, y_ = verGo [] l := ⟨_, rfl⟩
  rw [show areVer l = (T && decide (0 < l.length)) by rw [hT]; rfl]
  generalize hr : (⟨_, [], none⟩ : Ret) = r
  obtain ⟨ea, hea⟩ : ∃ y_, y_ = row fI l := ⟨_, rfl⟩
  rw [← hea]
  refine fix_fn2 (fn := ir255) tb_255 rfl rfl (by decide) rfl ?_; intro Q hQ; simp only [shutArgs, shutS, List.map_cons, List.map_nil, ir255, shut_in h0, List.head?_nil, reduceCtorEq, if_false, sExt, sHello, sAnswer, sEdit, sDeal, sBox, sDialed, sKnown]
  intro add sub mul arith eq ne lt le gt ge neg conv mn mx not beq len at' ln bd cut app allS isNil mks set o hP F ho
  have la := F.len_at hea
  have h6 : gt (len ea) 0 = decide (0 < l.length) := F.gt_n la rfl
  cbv
  refine loop_ind2 hP (σ := List Int × List Int × Int × Option (Int × Int)) (fun s => match s.2.2.2 with | none => [(0, R ea .sh), (2, B false), (5, R ea .sh), (6, I (len ea)), (7, I s.2.2.1)] | some j => [(0, R ea .sh), (2, B false), (3, I j.1), (4, I j.2), (5, R ea .sh), (6, I (len ea)), (7, I s.2.2.1)]) (fun s => At s.2.2.1 s.2.1.length ∧ l = s.2.1 ++ s.1 ∧ verGo s.2.1 s.1 = T) (fun s => s.1.length) (l, [], 0, none) rfl ⟨rfl, rfl, hT.symm⟩ ?_
  intro c1 Q1 hc1 hQ1
  rintro ⟨suf, pre, i, j⟩ ⟨hi, hl', hb⟩ ih
  simp only at hi hl' hb ih
  cases j with
  | none =>
    cbv
    cases suf with
    | nil =>
      rw [F.lt_f hi la (by simp [hl'])]; cbv
      rw [hQ1]; cbv
      rw [hQ]; cbv
      rw [h6, ← hr, ← hb]; rfl
    | cons x suf =>
      obtain ⟨ix, hix⟩ : ∃ y_, y_ = pre.length * 1 := ⟨_, rfl⟩
      have hpre : pre.length ≤ 1099511627776 := by rw [hl'] at hl; simp at hl; omega
      have p0 : at' 1 ea i = some (ix, [.int .i64 x]) := by rw [hix]; exact F.get hi hea hl' (fun _ => rfl) (by decide)
      obtain ⟨b1, hb1⟩ : ∃ y_, y_ = inR x 1 9 := ⟨_, rfl⟩
      have c1 : o 232 [I x, I 1, I 9] = some ⟨[B b1], [], none⟩ := by rw [ho, hb1]; exact ok232 ..
      have hv0 : verGo pre (x :: suf) = (b1 && (match pre.getLast? with | none => true | some y => !decide (x ≤ y)) && verGo (pre ++ [x]) suf) := by rw [hb1]; rfl
      rw [hv0] at hb
      have hi' : At (add .i64 i 1) (pre ++ [x]).length := at_len (F.inc hi (by omega)) (by simp)
      have hl2 : l = (pre ++ [x]) ++ suf := by rw [hl']; simp
      have hg0 : gt i 0 = decide (0 < pre.length) := F.gt_n hi rfl
      rw [F.lt_t hi la (by simp [hl'])]; cbv
      rw [p0]; cbv
      rw [c1]; cbv
      refine both (fun d1 => ?_) (fun d1 => ?_) <;> rw [d1] <;> cbv
      · rw [hQ1]; cbv
        rw [hQ]; cbv
        rw [← hr, show T = false by rw [← hb, F.not_t d1]; rfl]; rfl
      rw [F.not_f d1, Bool.true_and] at hb
      rcases List.eq_nil_or_concat pre with hp | ⟨p', y, hp⟩
      · rw [show gt i 0 = false by rw [hg0, hp]; rfl]; cbv
        refine ih (suf, pre ++ [x], add .i64 i 1, some (i, x)) ⟨hi', hl2, ?_⟩ (by simp)
        simp only
        rw [← hb, hp]; rfl
      · rw [show gt i 0 = true by rw [hg0, hp]; simp]; cbv
        obtain ⟨iy, hiy⟩ : ∃ y_, y_ = p'.length * 1 := ⟨_, rfl⟩
        have hi2 : At (sub .i64 i 1) p'.length := by unfold At at hi ⊢; rw [hp] at hi; simp at hi; rw [F.sub, hi, wrap64 (by omega) (by rw [hp] at hpre; simp at hpre; omega)]; omega
        rw [show at' 1 ea (sub .i64 i 1) = some (iy, [.int .i64 y]) by rw [hiy]; exact F.get hi2 hea (show l = p' ++ y :: (x :: suf) by rw [hl', hp]; simp) (fun _ => rfl) (by decide)]; cbv
        skip
        obtain ⟨u, hu⟩ : ∃ y_, y_ = decide (x ≤ y) := ⟨_, rfl⟩
        rw [show ge y x = u by rw [F.ge, hu]]; cbv
        have hgl : pre.getLast? = some y := by rw [hp]; simp
        rw [hgl] at hb
        simp only at hb
        rw [← hu] at hb
        refine both (fun d3 => ?_) (fun d3 => ?_) <;> rw [d3] <;> cbv
        · rw [hQ1]; cbv
          rw [hQ]; cbv
          rw [← hr, show T = false by rw [← hb, d3]; rfl]; rfl
        · refine ih (suf, pre ++ [x], add .i64 i 1, some (i, x)) ⟨hi', hl2, ?_⟩ (by simp)
          rw [← hb, d3]; simp
  | some jj =>
    obtain ⟨j1, j2⟩ := jj
    cbv
    cases suf with
    | nil =>
      rw [F.lt_f hi la (by simp [hl'])]; cbv
      rw [hQ1]; cbv
      rw [hQ]; cbv
      rw [h6, ← hr, ← hb]; rfl
    | cons x suf =>
      obtain ⟨ix, hix⟩ : ∃ y_, y_ = pre.length * 1 := ⟨_, rfl⟩
      have hpre : pre.length ≤ 1099511627776 := by rw [hl'] at hl; simp at hl; omega
      have p0 : at' 1 ea i = some (ix, [.int .i64 x]) := by rw [hix]; exact F.get hi hea hl' (fun _ => rfl) (by decide)
      obtain ⟨b1, hb1⟩ : ∃ y_, y_ = inR x 1 9 := ⟨_, rfl⟩
      have c1 : o 232 [I x, I 1, I 9] = some ⟨[B b1], [], none⟩ := by rw [ho, hb1]; exact ok232 ..
      have hv0 : verGo pre (x :: suf) = (b1 && (match pre.getLast? with | none => true | some y => !decide (x ≤ y)) && verGo (pre ++ [x]) suf) := by rw [hb1]; rfl
      rw [hv0] at hb
      have hi' : At (add .i64 i 1) (pre ++ [x]).length := at_len (F.inc hi (by omega)) (by simp)
      have hl2 : l = (pre ++ [x]) ++ suf := by rw [hl']; simp
      have hg0 : gt i 0 = decide (0 < pre.length) := F.gt_n hi rfl
      rw [F.lt_t hi la (by simp [hl'])]; cbv
      rw [p0]; cbv
      rw [c1]; cbv
      refine both (fun d1 => ?_) (fun d1 => ?_) <;> rw [d1] <;> cbv
      · rw [hQ1]; cbv
        rw [hQ]; cbv
        rw [← hr, show T = false by rw [← hb, F.not_t d1]; rfl]; rfl
      rw [F.not_f d1, Bool.true_and] at hb
      rcases List.eq_nil_or_concat pre with hp | ⟨p', y, hp⟩
      · rw [show gt i 0 = false by rw [hg0, hp]; rfl]; cbv
        refine ih (suf, pre ++ [x], add .i64 i 1, some (i, x)) ⟨hi', hl2, ?_⟩ (by simp)
        simp only
        rw [← hb, hp]; rfl
      · rw [show gt i 0 = true by rw [hg0, hp]; simp]; cbv
        obtain ⟨iy, hiy⟩ : ∃ y_, y_ = p'.length * 1 := ⟨_, rfl⟩
        have hi2 : At (sub .i64 i 1) p'.length := by unfold At at hi ⊢; rw [hp] at hi; simp at hi; rw [F.sub, hi, wrap64 (by omega) (by rw [hp] at hpre; simp at hpre; omega)]; omega
        rw [show at' 1 ea (sub .i64 i 1) = some (iy, [.int .i64 y]) by rw [hiy]; exact F.get hi2 hea (show l = p' ++ y :: (x :: suf) by rw [hl', hp]; simp) (fun _ => rfl) (by decide)]; cbv
        skip
        obtain ⟨u, hu⟩ : ∃ y_, y_ = decide (x ≤ y) := ⟨_, rfl⟩
        rw [show ge y x = u by rw [F.ge, hu]]; cbv
        have hgl : pre.getLast? = some y := by rw [hp]; simp
        rw [hgl] at hb
        simp only at hb
        rw [← hu] at hb
        refine both (fun d3 => ?_) (fun d3 => ?_) <;> rw [d3] <;> cbv
        · rw [hQ1]; cbv
          rw [hQ]; cbv
          rw [← hr, show T = false by rw [← hb, d3]; rfl]; rfl
        · refine ih (suf, pre ++ [x], add .i64 i 1, some (i, x)) ⟨hi', hl2, ?_⟩ (by simp)
          rw [← hb, d3]; simp

/- slices.IndexFunc[[]int,int] -/
theorem ok377_0 (g : Nat) (hg : md g = []) (p : Int → Bool) (l : List Int) (hl : l.length ≤ 1099511627776) (hp : ∀ x ∈ l, fix Tb md g [I x] = some ⟨[B (p x)], [], none⟩) {f0 : Fl} (h0 : inFl f0 = true) :
    fix Tb md 377 [R (row fI l) f0, ⟨.val, [⟨.fn g [], .sh⟩]⟩] = some ⟨[I (ixOf p l 0)], [], none⟩ := by
  generalize hm : md = m at hg hp ⊢
  refine fix_fn (fn := ir377) tb_377 rfl rfl (by decide) rfl ?_; simp only [shutArgs, shutS, List.map_cons, List.map_nil, ir377, shut_in h0, List.head?_nil, reduceCtorEq, if_false, sExt, sHello, sAnswer, sEdit, sDeal, sBox, sDialed, sKnown]
  generalize hr : (⟨_, [], none⟩ : Ret) = r
  obtain ⟨ea, hea⟩ : ∃ y_, y_ = row fI l := ⟨_, rfl⟩
  rw [← hea]
  intro add sub mul arith eq ne lt le gt ge neg conv mn mx not beq len at' ln bd cut app allS isNil mks set o hP F ho
  have la := F.len_at hea
  cbv
  refine loop_ind hP (σ := List Int × List Int × Int × Option Int) (fun s => match s.2.2.2 with | none => [(0, R ea .sh), (1, ⟨.val, [⟨.fn g [], .sh⟩]⟩), (4, I 0), (7, I (len ea)), (8, I s.2.2.1)] | some j => [(0, R ea .sh), (1, ⟨.val, [⟨.fn g [], .sh⟩]⟩), (4, I 0), (5, I j), (7, I (len ea)), (8, I s.2.2.1)])
    (fun s => At s.2.2.1 s.2.1.length ∧ l = s.2.1 ++ s.1 ∧ ixOf p s.1 (s.2.1.length : Int) = ixOf p l 0) (fun s => s.1.length) (l, [], 0, none) rfl ⟨rfl, rfl, rfl⟩ ?_
  rintro ⟨suf, pre, i, j⟩ ⟨hi, hl', hx⟩ ih
  simp only at hi hl' hx ih
  have hi' : i = (pre.length : Int) := hi
  rw [← hi'] at hx
  cases j <;> cbv <;> (
    cases suf with
    | nil =>
      rw [F.lt_f hi la (by simp [hl'])]; cbv
      rw [← hr, ← hx]; rfl
    | cons x suf =>
      rw [F.lt_t hi la (by simp [hl'])]; cbv
      obtain ⟨ix, hix⟩ : ∃ y_, y_ = pre.length * 1 := ⟨_, rfl⟩
      rw [show at' 1 ea i = some (ix, [.int .i64 x]) by rw [hix]; exact F.get hi hea hl' (fun _ => rfl) (by decide)]; cbv
      obtain ⟨v, hv⟩ : ∃ y_, y_ = p x := ⟨_, rfl⟩
      have c1 : o g [I x] = some ⟨[B v], [], none⟩ := by rw [ho, hv]; exact hp x (by rw [hl']; simp)
      rw [hg]; cbv
      rw [c1]; cbv
      have hx1 : ixOf p (x :: suf) i = if p x = true then i else ixOf p suf (i + 1) := rfl
      rw [hx1] at hx
      refine both (fun c => ?_) (fun c => ?_) <;> rw [c] <;> cbv
      · rw [← hv, if_pos c] at hx
        rw [← hr, ← hx]
      · rw [← hv, if_neg (by simp [c])] at hx
        refine ih (suf, pre ++ [x], add .i64 i 1, some i) ⟨at_len (F.inc hi (by simp [hl'] at hl; omega)) (by simp), by simp [hl'], ?_⟩ (by simp)
        rw [← hx, hi']
        simp)
theorem ok377_1 (g : Nat) (hg : md g = []) (k0 : V) (p : Int → Bool) (l : List Int) (hl : l.length ≤ 1099511627776) (hp : ∀ x ∈ l, fix Tb md g [I x, ⟨.val, [⟨k0, .sh⟩]⟩] = some ⟨[B (p x)], [], none⟩) {f0 : Fl} (h0 : inFl f0 = true) :
    fix Tb md 377 [R (row fI l) f0, ⟨.val, [⟨.fn g [k0], .sh⟩]⟩] = some ⟨[I (ixOf p l 0)], [], none⟩ := by
  generalize hm : md = m at hg hp ⊢
  refine fix_fn (fn := ir377) tb_377 rfl rfl (by decide) rfl ?_; simp only [shutArgs, shutS, List.map_cons, List.map_nil, ir377, shut_in h0, List.head?_nil, reduceCtorEq, if_false, sExt, sHello, sAnswer, sEdit, sDeal, sBox, sDialed, sKnown]
  generalize hr : (⟨_, [], none⟩ : Ret) = r
  obtain ⟨ea, hea⟩ : ∃ y_, y_ = row fI l := ⟨_, rfl⟩
  rw [← hea]
  intro add sub mul arith eq ne lt le gt ge neg conv mn mx not beq len at' ln bd cut app allS isNil mks set o hP F ho
  have la := F.len_at hea
  cbv
  refine loop_ind hP (σ := List Int × List Int × Int × Option Int) (fun s => match s.2.2.2 with | none => [(0, R ea .sh), (1, ⟨.val, [⟨.fn g [k0], .sh⟩]⟩), (4, I 0), (7, I (len ea)), (8, I s.2.2.1)] | some j => [(0, R ea .sh), (1, ⟨.val, [⟨.fn g [k0], .sh⟩]⟩), (4, I 0), (5, I j), (7, I (len ea)), (8, I s.2.2.1)])
    (fun s => At s.2.2.1 s.2.1.length ∧ l = s.2.1 ++ s.1 ∧ ixOf p s.1 (s.2.1.length : Int) = ixOf p l 0) (fun s => s.1.length) (l, [], 0, none) rfl ⟨rfl, rfl, rfl⟩ ?_
  rintro ⟨suf, pre, i, j⟩ ⟨hi, hl', hx⟩ ih
  simp only at hi hl' hx ih
  have hi' : i = (pre.length : Int) := hi
  rw [← hi'] at hx
  cases j <;> cbv <;> (
    cases suf with
    | nil =>
      rw [F.lt_f hi la (by simp [hl'])]; cbv
      rw [← hr, ← hx]; rfl
    | cons x suf =>
      rw [F.lt_t hi la (by simp [hl'])]; cbv
      obtain ⟨ix, hix⟩ : ∃ y_, y_ = pre.length * 1 := ⟨_, rfl⟩
      rw [show at' 1 ea i = some (ix, [.int .i64 x]) by rw [hix]; exact F.get hi hea hl' (fun _ => rfl) (by decide)]; cbv
      obtain ⟨v, hv⟩ : ∃ y_, y_ = p x := ⟨_, rfl⟩
      have c1 : o g [I x, ⟨.val, [⟨k0, .sh⟩]⟩] = some ⟨[B v], [], none⟩ := by rw [ho, hv]; exact hp x (by rw [hl']; simp)
      rw [hg]; cbv
      rw [c1]; cbv
      have hx1 : ixOf p (x :: suf) i = if p x = true then i else ixOf p suf (i + 1) := rfl
      rw [hx1] at hx
      refine both (fun c => ?_) (fun c => ?_) <;> rw [c] <;> cbv
      · rw [← hv, if_pos c] at hx
        rw [← hr, ← hx]
      · rw [← hv, if_neg (by simp [c])] at hx
        refine ih (suf, pre ++ [x], add .i64 i 1, some i) ⟨at_len (F.inc hi (by simp [hl'] at hl; omega)) (by simp), by simp [hl'], ?_⟩ (by simp)
        rw [← hx, hi']
        simp)
theorem ok377_2 (g : Nat) (hg : md g = []) (k0 k1 : V) (p : Int → Bool) (l : List Int) (hl : l.length ≤ 1099511627776) (hp : ∀ x ∈ l, fix Tb md g [I x, ⟨.val, [⟨k0, .sh⟩]⟩, ⟨.val, [⟨k1, .sh⟩]⟩] = some ⟨[B (p x)], [], none⟩) {f0 : Fl} (h0 : inFl f0 = true) :
    fix Tb md 377 [R (row fI l) f0, ⟨.val, [⟨.fn g [k0, k1], .sh⟩]⟩] = some ⟨[I (ixOf p l 0)], [], none⟩ := by
  generalize hm : md = m at hg hp ⊢
  refine fix_fn (fn := ir377) tb_377 rfl rfl (by decide) rfl ?_; simp only [shutArgs, shutS, List.map_cons, List.map_nil, ir377, shut_in h0, List.head?_nil, reduceCtorEq, if_false, sExt, sHello, sAnswer, sEdit, sDeal, sBox, sDialed, sKnown]
  generalize hr : (⟨_, [], none⟩ : Ret) = r
  obtain ⟨ea, hea⟩ : ∃ y_, y_ = row fI l := ⟨_, rfl⟩
  rw [← hea]
  intro add sub mul arith eq ne lt le gt ge neg conv mn mx not beq len at' ln bd cut app allS isNil mks set o hP F ho
  have la := F.len_at hea
  cbv
  refine loop_ind hP (σ := List Int × List Int × Int × Option Int) (fun s => match s.2.2.2 with | none => [(0, R ea .sh), (1, ⟨.val, [⟨.fn g [k0, k1], .sh⟩]⟩), (4, I 0), (7, I (len ea)), (8, I s.2.2.1)] | some j => [(0, R ea .sh), (1, ⟨.val, [⟨.fn g [k0, k1], .sh⟩]⟩), (4, I 0), (5, I j), (7, I (len ea)), (8, I s.2.2.1)])
    (fun s => At s.2.2.1 s.2.1.length ∧ l = s.2.1 ++ s.1 ∧ ixOf p s.1 (s.2.1.length : Int) = ixOf p l 0) (fun s => s.1.length) (l, [], 0, none) rfl ⟨rfl, rfl, rfl⟩ ?_
  rintro ⟨suf, pre, i, j⟩ ⟨hi, hl', hx⟩ ih
  simp only at hi hl' hx ih
  have hi' : i = (pre.length : Int) := hi
  rw [← hi'] at hx
  cases j <;> cbv <;> (
    cases suf with
    | nil =>
      rw [F.lt_f hi la (by simp [hl'])]; cbv
      rw [← hr, ← hx]; rfl
    | cons x suf =>
      rw [F.lt_t hi la (by simp [hl'])]; cbv
      obtain ⟨ix, hix⟩ : ∃ y_, y_ = pre.length * 1 := ⟨_, rfl⟩
      rw [show at' 1 ea i = some (ix, [.int .i64 x]) by rw [hix]; exact F.get hi hea hl' (fun _ => rfl) (by decide)]; cbv
      obtain ⟨v, hv⟩ : ∃ y_, y_ = p x := ⟨_, rfl⟩
      have c1 : o g [I x, ⟨.val, [⟨k0, .sh⟩]⟩, ⟨.val, [⟨k1, .sh⟩]⟩] = some ⟨[B v], [], none⟩ := by rw [ho, hv]; exact hp x (by rw [hl']; simp)
      rw [hg]; cbv
      rw [c1]; cbv
      have hx1 : ixOf p (x :: suf) i = if p x = true then i else ixOf p suf (i + 1) := rfl
      rw [hx1] at hx
      refine both (fun c => ?_) (fun c => ?_) <;> rw [c] <;> cbv
      · rw [← hv, if_pos c] at hx
        rw [← hr, ← hx]
      · rw [← hv, if_neg (by simp [c])] at hx
        refine ih (suf, pre ++ [x], add .i64 i 1, some i) ⟨at_len (F.inc hi (by simp [hl'] at hl; omega)) (by simp), by simp [hl'], ?_⟩ (by simp)
        rw [← hx, hi']
        simp)

/- slices.ContainsFunc[[]int,int] -/
theorem ok336_0 (g : Nat) (hg : md g = []) (p : Int → Bool) (l : List Int) (hl : l.length ≤ 1099511627776) (hp : ∀ x ∈ l, fix Tb md g [I x] = some ⟨[B (p x)], [], none⟩) {f0 : Fl} (h0 : inFl f0 = true) :
    fix Tb md 336 [R (row fI l) f0, ⟨.val, [⟨.fn g [], .sh⟩]⟩] = some ⟨[B (l.any p)], [], none⟩ := by
  refine fix_fn (fn := ir336) tb_336 rfl rfl (by decide) rfl ?_; simp only [shutArgs, shutS, List.map_cons, List.map_nil, ir336, shut_in h0, List.head?_nil, reduceCtorEq, if_false, sExt, sHello, sAnswer, sEdit, sDeal, sBox, sDialed, sKnown]
  generalize hr : (⟨_, [], none⟩ : Ret) = r
  obtain ⟨ea, hea⟩ : ∃ y_, y_ = row fI l := ⟨_, rfl⟩
  rw [← hea]
  obtain ⟨v, hv⟩ : ∃ y_, y_ = ixOf p l 0 := ⟨_, rfl⟩
  have hv2 : decide (0 ≤ v) = l.any p := by rw [hv]; exact ixOf_ge p l 0 (by decide)
  rw [← hv2] at hr
  clear hv2
  intro add sub mul arith eq ne lt le gt ge neg conv mn mx not beq len at' ln bd cut app allS isNil mks set o hP F ho
  have c1 : o 377 [R ea (.sp 0 0), ⟨.val, [⟨.fn g [], .sh⟩]⟩] = some ⟨[I v], [], none⟩ := by rw [ho, hv, hea]; exact ok377_0 g hg p l hl hp rfl
  cbv
  rw [c1]; cbv
  rw [← hr, F.ge]
theorem ok336_1 (g : Nat) (hg : md g = []) (k0 : V) (p : Int → Bool) (l : List Int) (hl : l.length ≤ 1099511627776) (hp : ∀ x ∈ l, fix Tb md g [I x, ⟨.val, [⟨k0, .sh⟩]⟩] = some ⟨[B (p x)], [], none⟩) {f0 : Fl} (h0 : inFl f0 = true) :
    fix Tb md 336 [R (row fI l) f0, ⟨.val, [⟨.fn g [k0], .sh⟩]⟩] = some ⟨[B (l.any p)], [], none⟩ := by
  refine fix_fn (fn := ir336) tb_336 rfl rfl (by decide) rfl ?_; simp only [shutArgs, shutS, List.map_cons, List.map_nil, ir336, shut_in h0, List.head?_nil, reduceCtorEq, if_false, sExt, sHello, sAnswer, sEdit, sDeal, sBox, sDialed, sKnown]
  generalize hr : (⟨_, [], none⟩ : Ret) = r
  obtain ⟨ea, hea⟩ : ∃ y_, y_ = row fI l := ⟨_, rfl⟩
  rw [← hea]
  obtain ⟨v, hv⟩ : ∃ y_, y_ = ixOf p l 0 := ⟨_, rfl⟩
  have hv2 : decide (0 ≤ v) = l.any p := by rw [hv]; exact ixOf_ge p l 0 (by decide)
  rw [← hv2] at hr
  clear hv2
  intro add sub mul arith eq ne lt le gt ge neg conv mn mx not beq len at' ln bd cut app allS isNil mks set o hP F ho
  have c1 : o 377 [R ea (.sp 0 0), ⟨.val, [⟨.fn g [k0], .sh⟩]⟩] = some ⟨[I v], [], none⟩ := by rw [ho, hv, hea]; exact ok377_1 g hg k0 p l hl hp rfl
  cbv
  rw [c1]; cbv
  rw [← hr, F.ge]
theorem ok336_2 (g : Nat) (hg : md g = []) (k0 k1 : V) (p : Int → Bool) (l : List Int) (hl : l.length ≤ 1099511627776) (hp : ∀ x ∈ l, fix Tb md g [I x, ⟨.val, [⟨k0, .sh⟩]⟩, ⟨.val, [⟨k1, .sh⟩]⟩] = some ⟨[B (p x)], [], none⟩) {f0 : Fl} (h0 : inFl f0 = true) :
    fix Tb md 336 [R (row fI l) f0, ⟨.val, [⟨.fn g [k0, k1], .sh⟩]⟩] = some ⟨[B (l.any p)], [], none⟩ := by
  refine fix_fn (fn := ir336) tb_336 rfl rfl (by decide) rfl ?_; simp only [shutArgs, shutS, List.map_cons, List.map_nil, ir336, shut_in h0, List.head?_nil, reduceCtorEq, if_false, sExt, sHello, sAnswer, sEdit, sDeal, sBox, sDialed, sKnown]
  generalize hr : (⟨_, [], none⟩ : Ret) = r
  obtain ⟨ea, hea⟩ : ∃ y_, y_ = row fI l := ⟨_, rfl⟩
  rw [← hea]
  obtain ⟨v, hv⟩ : ∃ y_, y_ = ixOf p l 0 := ⟨_, rfl⟩
  have hv2 : decide (0 ≤ v) = l.any p := by rw [hv]; exact ixOf_ge p l 0 (by decide)
  rw [← hv2] at hr
  clear hv2
  intro add sub mul arith eq ne lt le gt ge neg conv mn mx not beq len at' ln bd cut app allS isNil mks set o hP F ho
  have c1 : o 377 [R ea (.sp 0 0), ⟨.val, [⟨.fn g [k0, k1], .sh⟩]⟩] = some ⟨[I v], [], none⟩ := by rw [ho, hv, hea]; exact ok377_2 g hg k0 k1 p l hl hp rfl
  cbv
  rw [c1]; cbv
  rw [← hr, F.ge]

/- impl.areNumbers$1 -/
theorem ok340 (x lo hi : Int) : fix Tb md 340 [I x, ⟨.val, [⟨.ptr () [.int .i64 lo], .sh⟩]⟩, ⟨.val, [⟨.ptr () [.int .i64 hi], .sh⟩]⟩] = some ⟨[B (!inR x lo hi)], [], none⟩ := by
  refine fix_fn (fn := ir340) tb_340 rfl rfl (by decide) rfl ?_; simp only [shutArgs, shutS, List.map_cons, List.map_nil, ir340, List.head?_nil, reduceCtorEq, if_false, sExt, sHello, sAnswer, sEdit, sDeal, sBox, sDialed, sKnown]
  generalize hr : (⟨_, [], none⟩ : Ret) = r
  obtain ⟨v, hv⟩ : ∃ y_, y_ = inR x lo hi := ⟨_, rfl⟩
  rw [← hv] at hr
  intro add sub mul arith eq ne lt le gt ge neg conv mn mx not beq len at' ln bd cut app allS isNil mks set o hP F ho
  have c1 : o 232 [I x, I lo, I hi] = some ⟨[B v], [], none⟩ := by rw [ho, hv]; exact ok232 ..
  cbv
  rw [c1]; cbv
  rw [← hr, F.not]

/- impl.areNumbers -/
def nums (l : List Int) (lo hi : Int) : Bool := l.all fun x => inR x lo hi
theorem ok233 (l : List Int) (lo hi : Int) (hl : l.length ≤ 1099511627776) {f0 : Fl} (h0 : inFl f0 = true) : fix Tb md 233 [R (row fI l) f0, I lo, I hi] = some ⟨[B (nums l lo hi)], [], none⟩ := by
  rw [show nums l lo hi = !(l.any fun x => !inR x lo hi) by unfold nums; simp [List.all_eq_not_any_not]]
  refine fix_fn (fn := ir233) tb_233 rfl rfl (by decide) rfl ?_; simp only [shutArgs, shutS, List.map_cons, List.map_nil, ir233, shut_in h0, List.head?_nil, reduceCtorEq, if_false, sExt, sHello, sAnswer, sEdit, sDeal, sBox, sDialed, sKnown]
  generalize hr : (⟨_, [], none⟩ : Ret) = r
  obtain ⟨v, hv⟩ : ∃ y_, y_ = l.any fun x => !inR x lo hi := ⟨_, rfl⟩
  obtain ⟨ea, hea⟩ : ∃ y_, y_ = row fI l := ⟨_, rfl⟩
  rw [← hv] at hr
  rw [← hea]
  intro add sub mul arith eq ne lt le gt ge neg conv mn mx not beq len at' ln bd cut app allS isNil mks set o hP F ho
  have c1 : o 336 [R ea (.sp 0 0), ⟨.val, [⟨.fn 340 [.ptr () [.int .i64 lo], .ptr () [.int .i64 hi]], .sh⟩]⟩] = some ⟨[B v], [], none⟩ := by rw [ho, hv, hea]; exact ok336_2 340 rfl _ _ _ l hl (fun x _ => ok340 x lo hi) rfl
  cbv
  rw [c1]; cbv
  rw [← hr, F.not]

/- impl.Ext] -/
theorem ok351_0 (g : Nat) (hg : md g = []) (p : Ext → Bool) (l : List Ext) (hl : l.length ≤ 1099511627776) (hp : ∀ x ∈ l, fix Tb md g [sExt x.tag (row fI x.body) (.sp 0 1)] = some ⟨[B (p x)], [], none⟩) {f0 : Fl} (h0 : inFl f0 = true) :
    fix Tb md 351 [R (row fExt l) f0, ⟨.val, [⟨.fn g [], .sh⟩]⟩] = some ⟨[I (ixOf p l 0)], [], none⟩ := by
  generalize hm : md = m at hg hp ⊢
  refine fix_fn (fn := ir351) tb_351 rfl rfl (by decide) rfl ?_; simp only [shutArgs, shutS, List.map_cons, List.map_nil, ir351, shut_in h0, List.head?_nil, reduceCtorEq, if_false, sExt, sHello, sAnswer, sEdit, sDeal, sBox, sDialed, sKnown]
  generalize hr : (⟨_, [], none⟩ : Ret) = r
  obtain ⟨ea, hea⟩ : ∃ y_, y_ = row fExt l := ⟨_, rfl⟩
  rw [← hea]
  intro add sub mul arith eq ne lt le gt ge neg conv mn mx not beq len at' ln bd cut app allS isNil mks set o hP F ho
  have la := F.len_at hea
  cbv
  refine loop_ind hP (σ := List Ext × List Ext × Int × Option Int) (fun s => match s.2.2.2 with | none => [(0, R ea .sh), (1, ⟨.val, [⟨.fn g [], .sh⟩]⟩), (4, I 0), (7, I (len ea)), (8, I s.2.2.1)] | some j => [(0, R ea .sh), (1, ⟨.val, [⟨.fn g [], .sh⟩]⟩), (4, I 0), (5, I j), (7, I (len ea)), (8, I s.2.2.1)])
    (fun s => At s.2.2.1 s.2.1.length ∧ l = s.2.1 ++ s.1 ∧ ixOf p s.1 (s.2.1.length : Int) = ixOf p l 0) (fun s => s.1.length) (l, [], 0, none) rfl ⟨rfl, rfl, rfl⟩ ?_
  rintro ⟨suf, pre, i, j⟩ ⟨hi, hl', hx⟩ ih
  simp only at hi hl' hx ih
  have hi' : i = (pre.length : Int) := hi
  rw [← hi'] at hx
  cases j <;> cbv <;> (
    cases suf with
    | nil =>
      rw [F.lt_f hi la (by simp [hl'])]; cbv
      rw [← hr, ← hx]; rfl
    | cons x suf =>
      rw [F.lt_t hi la (by simp [hl'])]; cbv
      obtain ⟨e1, he1⟩ : ∃ y_, y_ = row fI x.body := ⟨_, rfl⟩
      obtain ⟨ix, hix⟩ : ∃ y_, y_ = pre.length * 2 := ⟨_, rfl⟩
      rw [show at' 2 ea i = some (ix, [.int .i64 x.tag, .row () e1]) by rw [hix, he1]; exact F.get hi hea hl' (fun _ => rfl) (by decide)]; cbv
      obtain ⟨v, hv⟩ : ∃ y_, y_ = p x := ⟨_, rfl⟩
      have c1 : o g [sExt x.tag e1 (.sp 0 1)] = some ⟨[B v], [], none⟩ := by rw [ho, hv, he1]; exact hp x (by rw [hl']; simp)
      rw [hg]; cbv
      rw [c1]; cbv
      have hx1 : ixOf p (x :: suf) i = if p x = true then i else ixOf p suf (i + 1) := rfl
      rw [hx1] at hx
      refine both (fun c => ?_) (fun c => ?_) <;> rw [c] <;> cbv
      · rw [← hv, if_pos c] at hx
        rw [← hr, ← hx]
      · rw [← hv, if_neg (by simp [c])] at hx
        refine ih (suf, pre ++ [x], add .i64 i 1, some i) ⟨at_len (F.inc hi (by simp [hl'] at hl; omega)) (by simp), by simp [hl'], ?_⟩ (by simp)
        rw [← hx, hi']
        simp)
theorem ok351_1 (g : Nat) (hg : md g = []) (k0 : V) (p : Ext → Bool) (l : List Ext) (hl : l.length ≤ 1099511627776) (hp : ∀ x ∈ l, fix Tb md g [sExt x.tag (row fI x.body) (.sp 0 1), ⟨.val, [⟨k0, .sh⟩]⟩] = some ⟨[B (p x)], [], none⟩) {f0 : Fl} (h0 : inFl f0 = true) :
    fix Tb md 351 [R (row fExt l) f0, ⟨.val, [⟨.fn g [k0], .sh⟩]⟩] = some ⟨[I (ixOf p l 0)], [], none⟩ := by
  generalize hm : md = m at hg hp ⊢
  refine fix_fn (fn := ir351) tb_351 rfl rfl (by decide) rfl ?_; simp only [shutArgs, shutS, List.map_cons, List.map_nil, ir351, shut_in h0, List.head?_nil, reduceCtorEq, if_false, sExt, sHello, sAnswer, sEdit, sDeal, sBox, sDialed, sKnown]
  generalize hr : (⟨_, [], none⟩ : Ret) = r
  obtain ⟨ea, hea⟩ : ∃ y_, y_ = row fExt l := ⟨_, rfl⟩
  rw [← hea]
  intro add sub mul arith eq ne lt le gt ge neg conv mn mx not beq len at' ln bd cut app allS isNil mks set o hP F ho
  have la := F.len_at hea
  cbv
  refine loop_ind hP (σ := List Ext × List Ext × Int × Option Int) (fun s => match s.2.2.2 with | none => [(0, R ea .sh), (1, ⟨.val, [⟨.fn g [k0], .sh⟩]⟩), (4, I 0), (7, I (len ea)), (8, I s.2.2.1)] | some j => [(0, R ea .sh), (1, ⟨.val, [⟨.fn g [k0], .sh⟩]⟩), (4, I 0), (5, I j), (7, I (len ea)), (8, I s.2.2.1)])
    (fun s => At s.2.2.1 s.2.1.length ∧ l = s.2.1 ++ s.1 ∧ ixOf p s.1 (s.2.1.length : Int) = ixOf p l 0) (fun s => s.1.length) (l, [], 0, none) rfl ⟨rfl, rfl, rfl⟩ ?_
  rintro ⟨suf, pre, i, j⟩ ⟨hi, hl', hx⟩ ih
  simp only at hi hl' hx ih
  have hi' : i = (pre.length : Int) := hi
  rw [← hi'] at hx
  cases j <;> cbv <;> (
    cases suf with
    | nil =>
      rw [F.lt_f hi la (by simp [hl'])]; cbv
      rw [← hr, ← hx]; rfl
    | cons x suf =>
      rw [F.lt_t hi la (by simp [hl'])]; cbv
      obtain ⟨e1, he1⟩ : ∃ y_, y_ = row fI x.body := ⟨_, rfl⟩
      obtain ⟨ix, hix⟩ : ∃ y_, y_ = pre.length * 2 := ⟨_, rfl⟩
      rw [show at' 2 ea i = some (ix, [.int .i64 x.tag, .row () e1]) by rw [hix, he1]; exact F.get hi hea hl' (fun _ => rfl) (by decide)]; cbv
      obtain ⟨v, hv⟩ : ∃ y_, y_ = p x := ⟨_, rfl⟩
      have c1 : o g [sExt x.tag e1 (.sp 0 1), ⟨.val, [⟨k0, .sh⟩]⟩] = some ⟨[B v], [], none⟩ := by rw [ho, hv, he1]; exact hp x (by rw [hl']; simp)
      rw [hg]; cbv
      rw [c1]; cbv
      have hx1 : ixOf p (x :: suf) i = if p x = true then i else ixOf p suf (i + 1) := rfl
      rw [hx1] at hx
      refine both (fun c => ?_) (fun c => ?_) <;> rw [c] <;> cbv
      · rw [← hv, if_pos c] at hx
        rw [← hr, ← hx]
      · rw [← hv, if_neg (by simp [c])] at hx
        refine ih (suf, pre ++ [x], add .i64 i 1, some i) ⟨at_len (F.inc hi (by simp [hl'] at hl; omega)) (by simp), by simp [hl'], ?_⟩ (by simp)
        rw [← hx, hi']
        simp)
theorem ok351_2 (g : Nat) (hg : md g = []) (k0 k1 : V) (p : Ext → Bool) (l : List Ext) (hl : l.length ≤ 1099511627776) (hp : ∀ x ∈ l, fix Tb md g [sExt x.tag (row fI x.body) (.sp 0 1), ⟨.val, [⟨k0, .sh⟩]⟩, ⟨.val, [⟨k1, .sh⟩]⟩] = some ⟨[B (p x)], [], none⟩) {f0 : Fl} (h0 : inFl f0 = true) :
    fix Tb md 351 [R (row fExt l) f0, ⟨.val, [⟨.fn g [k0, k1], .sh⟩]⟩] = some ⟨[I (ixOf p l 0)], [], none⟩ := by
  generalize hm : md = m at hg hp ⊢
  refine fix_fn (fn := ir351) tb_351 rfl rfl (by decide) rfl ?_; simp only [shutArgs, shutS, List.map_cons, List.map_nil, ir351, shut_in h0, List.head?_nil, reduceCtorEq, if_false, sExt, sHello, sAnswer, sEdit, sDeal, sBox, sDialed, sKnown]
  generalize hr : (⟨_, [], none⟩ : Ret) = r
  obtain ⟨ea, hea⟩ : ∃ y_, y_ = row fExt l := ⟨_, rfl⟩
  rw [← hea]
  intro add sub mul arith eq ne lt le gt ge neg conv mn mx not beq len at' ln bd cut app allS isNil mks set o hP F ho
  have la := F.len_at hea
  cbv
  refine loop_ind hP (σ := List Ext × List Ext × Int × Option Int) (fun s => match s.2.2.2 with | none => [(0, R ea .sh), (1, ⟨.val, [⟨.fn g [k0, k1], .sh⟩]⟩), (4, I 0), (7, I (len ea)), (8, I s.2.2.1)] | some j => [(0, R ea .sh), (1, ⟨.val, [⟨.fn g [k0, k1], .sh⟩]⟩), (4, I 0), (5, I j), (7, I (len ea)), (8, I s.2.2.1)])
    (fun s => At s.2.2.1 s.2.1.length ∧ l = s.2.1 ++ s.1 ∧ ixOf p s.1 (s.2.1.length : Int) = ixOf p l 0) (fun s => s.1.length) (l, [], 0, none) rfl ⟨rfl, rfl, rfl⟩ ?_
  rintro ⟨suf, pre, i, j⟩ ⟨hi, hl', hx⟩ ih
  simp only at hi hl' hx ih
  have hi' : i = (pre.length : Int) := hi
  rw [← hi'] at hx
  cases j <;> cbv <;> (
    cases suf with
    | nil =>
      rw [F.lt_f hi la (by simp [hl'])]; cbv
      rw [← hr, ← hx]; rfl
    | cons x suf =>
      rw [F.lt_t hi la (by simp [hl'])]; cbv
      obtain ⟨e1, he1⟩ : ∃ y_, y_ = row fI x.body := ⟨_, rfl⟩
      obtain ⟨ix, hix⟩ : ∃ y_, y_ = pre.length * 2 := ⟨_, rfl⟩
      rw [show at' 2 ea i = some (ix, [.int .i64 x.tag, .row () e1]) by rw [hix, he1]; exact F.get hi hea hl' (fun _ => rfl) (by decide)]; cbv
      obtain ⟨v, hv⟩ : ∃ y_, y_ = p x := ⟨_, rfl⟩
      have c1 : o g [sExt x.tag e1 (.sp 0 1), ⟨.val, [⟨k0, .sh⟩]⟩, ⟨.val, [⟨k1, .sh⟩]⟩] = some ⟨[B v], [], none⟩ := by rw [ho, hv, he1]; exact hp x (by rw [hl']; simp)
      rw [hg]; cbv
      rw [c1]; cbv
      have hx1 : ixOf p (x :: suf) i = if p x = true then i else ixOf p suf (i + 1) := rfl
      rw [hx1] at hx
      refine both (fun c => ?_) (fun c => ?_) <;> rw [c] <;> cbv
      · rw [← hv, if_pos c] at hx
        rw [← hr, ← hx]
      · rw [← hv, if_neg (by simp [c])] at hx
        refine ih (suf, pre ++ [x], add .i64 i 1, some i) ⟨at_len (F.inc hi (by simp [hl'] at hl; omega)) (by simp), by simp [hl'], ?_⟩ (by simp)
        rw [← hx, hi']
        simp)

/- impl.ExtOf$1 -/
theorem ok352 (e : Ext) (t : Int) {f0 : Fl} (h0 : inFl f0 = true) : fix Tb md 352 [sExt e.tag (row fI e.body) f0, ⟨.val, [⟨.ptr () [.int .i64 t], .sh⟩]⟩] = some ⟨[B (tagP t e)], [], none⟩ := by
  generalize hr : (⟨_, [], none⟩ : Ret) = r
  obtain ⟨ey, hey⟩ : ∃ y_, y_ = row fI e.body := ⟨_, rfl⟩
  rw [← hey]
  refine fix_fn2 (fn := ir352) tb_352 rfl rfl (by decide) rfl ?_; intro Q hQ; simp only [shutArgs, shutS, List.map_cons, List.map_nil, ir352, shut_in h0, List.head?_nil, reduceCtorEq, if_false, sExt, sHello, sAnswer, sEdit, sDeal, sBox, sDialed, sKnown]
  intro add sub mul arith eq ne lt le gt ge neg conv mn mx not beq len at' ln bd cut app allS isNil mks set o hP F ho
  cbv
  rw [hQ]; cbv
  rw [← hr, F.eq]; rfl

/- impl.ExtOf -/
theorem ok290 (l : List Ext) (t : Int) (hl : l.length ≤ 1099511627776) {f0 : Fl} (h0 : inFl f0 = true) : fix Tb md 290 [R (row fExt l) f0, I t] = some ⟨[I (extOf l t)], [], none⟩ := by
  obtain ⟨T, hT⟩ : ∃ y_, y_ = extOf l t := ⟨_, rfl⟩
  rw [← hT]
  generalize hr : (⟨_, [], none⟩ : Ret) = r
  obtain ⟨ea, hea⟩ : ∃ y_, y_ = row fExt l := ⟨_, rfl⟩
  rw [← hea]
  refine fix_fn2 (fn := ir290) tb_290 rfl rfl (by decide) rfl ?_; intro Q hQ; simp only [shutArgs, shutS, List.map_cons, List.map_nil, ir290, shut_in h0, List.head?_nil, reduceCtorEq, if_false, sExt, sHello, sAnswer, sEdit, sDeal, sBox, sDialed, sKnown]
  intro add sub mul arith eq ne lt le gt ge neg conv mn mx not beq len at' ln bd cut app allS isNil mks set o hP F ho
  have c1 : o 351 [R ea (.sp 0 0), ⟨.val, [⟨.fn 352 [.ptr () [.int .i64 t]], .sh⟩]⟩] = some ⟨[I T], [], none⟩ := by rw [ho, hT, hea]; exact ok351_1 352 rfl _ (tagP t) l hl (fun x _ => ok352 x t rfl) rfl
  cbv
  rw [c1]; cbv
  rw [hQ]; cbv
  exact congrArg some hr

/- impl.AreExts -/
theorem ok258 (l : List Ext) (hl : l.length ≤ 1099511627776) (w : ∀ y ∈ l, y.body.length ≤ 1099511627776) {f0 : Fl} (h0 : inFl f0 = true) : fix Tb md 258 [R (row fExt l) f0] = some ⟨[B (areEx l)], [], none⟩ := by
  obtain ⟨T, hT⟩ : ∃ y_, y_ = exOk [] l := ⟨_, rfl⟩
  rw [show areEx l = (T && decide (l.length ≤ 6)) by rw [hT]; rfl]
  generalize hr : (⟨_, [], none⟩ : Ret) = r
  obtain ⟨ea, hea⟩ : ∃ y_, y_ = row fExt l := ⟨_, rfl⟩
  rw [← hea]
  refine fix_fn2 (fn := ir258) tb_258 rfl rfl (by decide) rfl ?_; intro Q hQ; simp only [shutArgs, shutS, List.map_cons, List.map_nil, ir258, shut_in h0, List.head?_nil, reduceCtorEq, if_false, sExt, sHello, sAnswer, sEdit, sDeal, sBox, sDialed, sKnown]
  intro add sub mul arith eq ne lt le gt ge neg conv mn mx not beq len at' ln bd cut app allS isNil mks set o hP F ho
  have la := F.len_at hea
  have h6 : le (len ea) 6 = decide (l.length ≤ 6) := F.le_n la rfl
  cbv
  refine loop_ind2 hP (σ := List Ext × List Ext × Int × Option (Int × Int × List (List V))) (fun s => match s.2.2.2 with
      | none => [(0, R ea .sh), (2, B false), (5, R ea .sh), (6, I (len ea)), (7, I s.2.2.1)]
      | some j => [(0, R ea .sh), (2, B false), (3, I j.1), (4, ⟨.ptr 45 0, []⟩), (5, R ea .sh), (6, I (len ea)), (7, I s.2.2.1), (45, ⟨.box (), [⟨.int .i64 j.2.1, .sc⟩, ⟨.row () j.2.2, .sh⟩]⟩)]) (fun s => At s.2.2.1 s.2.1.length ∧ l = s.2.1 ++ s.1 ∧ exOk s.2.1 s.1 = T) (fun s => s.1.length) (l, [], 0, none) rfl ⟨rfl, rfl, hT.symm⟩ ?_
  intro c1 Q1 hc1 hQ1
  rintro ⟨suf, pre, i, j⟩ ⟨hi, hl', hb⟩ ih
  simp only at hi hl' hb ih
  cases j with
  | none =>
    cbv
    cases suf with
    | nil =>
      rw [F.lt_f hi la (by simp [hl'])]; cbv
      rw [hQ1]; cbv
      rw [hQ]; cbv
      rw [h6, ← hr, ← hb]; rfl
    | cons x suf =>
      obtain ⟨ix, hix⟩ : ∃ y_, y_ = pre.length * 2 := ⟨_, rfl⟩
      obtain ⟨e1, he1⟩ : ∃ y_, y_ = row fI x.body := ⟨_, rfl⟩
      have l1 := F.len_at he1
      have hx := w x (by rw [hl']; simp)
      have hpre : pre.length ≤ 1099511627776 := by rw [hl'] at hl; simp at hl; omega
      have p0 : at' 2 ea i = some (ix, [.int .i64 x.tag, .row () e1]) := by rw [hix, he1]; exact F.get hi hea hl' (fun _ => rfl) (by decide)
      obtain ⟨b1, hb1⟩ : ∃ y_, y_ = inR x.tag 0 255 := ⟨_, rfl⟩
      obtain ⟨b2, hb2⟩ : ∃ y_, y_ = decide (4 < x.body.length) := ⟨_, rfl⟩
      obtain ⟨b3, hb3⟩ : ∃ y_, y_ = bytes x.body := ⟨_, rfl⟩
      obtain ⟨b4, hb4⟩ : ∃ y_, y_ = pre.any (tagP x.tag) := ⟨_, rfl⟩
      obtain ⟨ep, hep⟩ : ∃ y_, y_ = row fExt pre := ⟨_, rfl⟩
      obtain ⟨v, hv⟩ : ∃ y_, y_ = extOf pre x.tag := ⟨_, rfl⟩
      have g4 : gt (len e1) 4 = b2 := by rw [hb2]; exact F.gt_n l1 rfl
      have c1 : o 232 [I x.tag, I 0, I 255] = some ⟨[B b1], [], none⟩ := by rw [ho, hb1]; exact ok232 ..
      have c3 : o 233 [R e1 (.sp 0 0), I 0, I 255] = some ⟨[B b3], [], none⟩ := by rw [ho, hb3, he1]; exact ok233 _ _ _ hx rfl
      have c4 : o 290 [R ep (.sp 0 0), I x.tag] = some ⟨[I v], [], none⟩ := by rw [ho, hv, hep]; exact ok290 _ _ hpre rfl
      have g5 : ge v 0 = b4 := by rw [F.ge, hv, hb4]; exact ixOf_ge (tagP x.tag) pre 0 (by decide)
      have hT' : T = (b1 && !b2 && b3 && !b4 && exOk (pre ++ [x]) suf) := by rw [← hb, hb1, hb2, hb3, hb4]; rfl
      obtain ⟨n, hn⟩ : ∃ y_, y_ = pre.length := ⟨_, rfl⟩
      have q1 : bd (ln ea) i = some n := by rw [F.ln' hea, hn]; exact F.bd' hi (by rw [hl']; simp)
      have q2 : cut 2 ea n 0 = some ep := by rw [F.cut' hea (fun _ => rfl), hep, hl', hn]; simp
      rw [F.lt_t hi la (by simp [hl'])]; cbv
      rw [p0]; cbv
      rw [c1]; cbv
      refine both (fun d1 => ?_) (fun d1 => ?_) <;> rw [d1] <;> cbv
      · rw [hQ1]; cbv
        rw [hQ]; cbv
        rw [← hr, show T = false by rw [hT', F.not_t d1]; rfl]; rfl
      rw [q1]; cbv
      rw [q2]; cbv
      rw [c4]; cbv
      rw [g5]; cbv
      refine both (fun d4 => ?_) (fun d4 => ?_) <;> rw [d4] <;> cbv
      · rw [hQ1]; cbv
        rw [hQ]; cbv
        rw [← hr, show T = false by rw [hT', d4]; simp]; rfl
      rw [g4]; cbv
      refine both (fun d2 => ?_) (fun d2 => ?_) <;> rw [d2] <;> cbv
      · rw [hQ1]; cbv
        rw [hQ]; cbv
        rw [← hr, show T = false by rw [hT', d2]; simp]; rfl
      rw [c3]; cbv
      refine both (fun d3 => ?_) (fun d3 => ?_) <;> rw [d3] <;> cbv
      · rw [hQ1]; cbv
        rw [hQ]; cbv
        rw [← hr, show T = false by rw [hT', F.not_t d3]; simp]; rfl
      refine ih (suf, pre ++ [x], add .i64 i 1, some (i, x.tag, e1)) ⟨at_len (F.inc hi (by omega)) (by simp), by simp [hl'], ?_⟩ (by simp)
      rw [hT', F.not_f d1, d2, F.not_f d3, d4]; simp
  | some jj =>
    obtain ⟨j3, j4, j5⟩ := jj
    cbv
    cases suf with
    | nil =>
      rw [F.lt_f hi la (by simp [hl'])]; cbv
      rw [hQ1]; cbv
      rw [hQ]; cbv
      rw [h6, ← hr, ← hb]; rfl
    | cons x suf =>
      obtain ⟨ix, hix⟩ : ∃ y_, y_ = pre.length * 2 := ⟨_, rfl⟩
      obtain ⟨e1, he1⟩ : ∃ y_, y_ = row fI x.body := ⟨_, rfl⟩
      have l1 := F.len_at he1
      have hx := w x (by rw [hl']; simp)
      have hpre : pre.length ≤ 1099511627776 := by rw [hl'] at hl; simp at hl; omega
      have p0 : at' 2 ea i = some (ix, [.int .i64 x.tag, .row () e1]) := by rw [hix, he1]; exact F.get hi hea hl' (fun _ => rfl) (by decide)
      obtain ⟨b1, hb1⟩ : ∃ y_, y_ = inR x.tag 0 255 := ⟨_, rfl⟩
      obtain ⟨b2, hb2⟩ : ∃ y_, y_ = decide (4 < x.body.length) := ⟨_, rfl⟩
      obtain ⟨b3, hb3⟩ : ∃ y_, y_ = bytes x.body := ⟨_, rfl⟩
      obtain ⟨b4, hb4⟩ : ∃ y_, y_ = pre.any (tagP x.tag) := ⟨_, rfl⟩
      obtain ⟨ep, hep⟩ : ∃ y_, y_ = row fExt pre := ⟨_, rfl⟩
      obtain ⟨v, hv⟩ : ∃ y_, y_ = extOf pre x.tag := ⟨_, rfl⟩
      have g4 : gt (len e1) 4 = b2 := by rw [hb2]; exact F.gt_n l1 rfl
      have c1 : o 232 [I x.tag, I 0, I 255] = some ⟨[B b1], [], none⟩ := by rw [ho, hb1]; exact ok232 ..
      have c3 : o 233 [R e1 (.sp 0 0), I 0, I 255] = some ⟨[B b3], [], none⟩ := by rw [ho, hb3, he1]; exact ok233 _ _ _ hx rfl
      have c4 : o 290 [R ep (.sp 0 0), I x.tag] = some ⟨[I v], [], none⟩ := by rw [ho, hv, hep]; exact ok290 _ _ hpre rfl
      have g5 : ge v 0 = b4 := by rw [F.ge, hv, hb4]; exact ixOf_ge (tagP x.tag) pre 0 (by decide)
      have hT' : T = (b1 && !b2 && b3 && !b4 && exOk (pre ++ [x]) suf) := by rw [← hb, hb1, hb2, hb3, hb4]; rfl
      obtain ⟨n, hn⟩ : ∃ y_, y_ = pre.length := ⟨_, rfl⟩
      have q1 : bd (ln ea) i = some n := by rw [F.ln' hea, hn]; exact F.bd' hi (by rw [hl']; simp)
      have q2 : cut 2 ea n 0 = some ep := by rw [F.cut' hea (fun _ => rfl), hep, hl', hn]; simp
      rw [F.lt_t hi la (by simp [hl'])]; cbv
      rw [p0]; cbv
      rw [c1]; cbv
      refine both (fun d1 => ?_) (fun d1 => ?_) <;> rw [d1] <;> cbv
      · rw [hQ1]; cbv
        rw [hQ]; cbv
        rw [← hr, show T = false by rw [hT', F.not_t d1]; rfl]; rfl
      rw [q1]; cbv
      rw [q2]; cbv
      rw [c4]; cbv
      rw [g5]; cbv
      refine both (fun d4 => ?_) (fun d4 => ?_) <;> rw [d4] <;> cbv
      · rw [hQ1]; cbv
        rw [hQ]; cbv
        rw [← hr, show T = false by rw [hT', d4]; simp]; rfl
      rw [g4]; cbv
      refine both (fun d2 => ?_) (fun d2 => ?_) <;> rw [d2] <;> cbv
      · rw [hQ1]; cbv
        rw [hQ]; cbv
        rw [← hr, show T = false by rw [hT', d2]; simp]; rfl
      rw [c3]; cbv
      refine both (fun d3 => ?_) (fun d3 => ?_) <;> rw [d3] <;> cbv
      · rw [hQ1]; cbv
        rw [hQ]; cbv
        rw [← hr, show T = false by rw [hT', F.not_t d3]; simp]; rfl
      refine ih (suf, pre ++ [x], add .i64 i 1, some (i, x.tag, e1)) ⟨at_len (F.inc hi (by omega)) (by simp), by simp [hl'], ?_⟩ (by simp)
      rw [hT', F.not_f d1, d2, F.not_f d3, d4]; simp

/- impl.IsHello -/
theorem ok113 (h : Hello) (hv : h.versions.length ≤ 1099511627776) (hl : h.exts.length ≤ 1099511627776) (w : ∀ y ∈ h.exts, y.body.length ≤ 1099511627776) {f0 f1 : Fl} (h0 : inFl f0 = true) (h1 : inFl f1 = true) : fix Tb md 113 [sHello (row fI h.versions) (row fExt h.exts) f0 f1] = some ⟨[B (isHel h)], [], none⟩ := by
  obtain ⟨a, ha⟩ : ∃ y_, y_ = areVer h.versions := ⟨_, rfl⟩
  obtain ⟨b, hb⟩ : ∃ y_, y_ = areEx h.exts := ⟨_, rfl⟩
  rw [show isHel h = (a && b) by rw [ha, hb]; rfl]
  generalize hr : (⟨_, [], none⟩ : Ret) = r
  obtain ⟨ea, hea⟩ : ∃ y_, y_ = row fI h.versions := ⟨_, rfl⟩
  obtain ⟨eb, heb⟩ : ∃ y_, y_ = row fExt h.exts := ⟨_, rfl⟩
  rw [← hea, ← heb]
  refine fix_fn2 (fn := ir113) tb_113 rfl rfl (by decide) rfl ?_; intro Q hQ; simp only [shutArgs, shutS, List.map_cons, List.map_nil, ir113, shut_in h0, shut_in h1, List.head?_nil, reduceCtorEq, if_false, sExt, sHello, sAnswer, sEdit, sDeal, sBox, sDialed, sKnown]
  intro add sub mul arith eq ne lt le gt ge neg conv mn mx not beq len at' ln bd cut app allS isNil mks set o hP F ho
  have c1 : o 255 [R ea (.sp 0 0)] = some ⟨[B a], [], none⟩ := by rw [ho, ha, hea]; exact ok255 _ hv rfl
  have c2 : o 258 [R eb (.sp 0 0)] = some ⟨[B b], [], none⟩ := by rw [ho, hb, heb]; exact ok258 _ hl w rfl
  cbv
  rw [c1]; cbv
  refine both (fun d1 => ?_) (fun d1 => ?_) <;> rw [d1] <;> cbv
  · rw [c2]; cbv
    rw [hQ]; cbv
    rw [← hr, d1]; rfl
  · rw [hQ]; cbv
    rw [← hr, d1]; rfl

/- slices.Clone[[]int,int] -/
theorem ok299 (l : List Int) (hl : l.length ≤ 1099511627776) {f0 : Fl} (h0 : inFl f0 = true) : fix Tb md 299 [R (row fI l) f0] = some ⟨[R (row fI l) (.ow false)], [], none⟩ := by
  refine fix_special tb_299 (by decide) ?_
  show special 1 _ = _
  have h1 : (row fI l).all (fun e => e.all scal && e.length = 1) = true := by
    rw [List.all_eq_true]; intro e he
    obtain ⟨x, _, rfl⟩ := List.mem_map.1 he
    rfl
  have h2 : (row fI l).length ≤ lim := by unfold row; simpa [lim] using hl
  have h3 : inF0 f0 = true := by cases f0 <;> first | rfl | cases h0
  show special 1 [⟨.val, [⟨.row () (row fI l), f0⟩]⟩] = _
  simp only [special, h1, h3, decide_eq_true h2, Bool.and_self, if_true]

/- impl.DecodeExts -/
def Rem (i c : Int) (k : Nat) : Prop := i + (k : Int) = c ∧ 0 ≤ i ∧ c ≤ 6
theorem ok298_c (c : Int) (rest : List Int) (hl : rest.length ≤ 1073741824) {f0 : Fl} (h0 : inFl f0 = true) (hc : inR c 0 6 = true) (r : Ret) (rF : decF (decI c.toNat rest []) = ([], false) → (⟨[R [] .nl, B false], [], none⟩ : Ret) = r) (rT : ∀ es, decF (decI c.toNat rest []) = (es, true) → (⟨[R (row fExt es) (.ow false), B true], [], none⟩ : Ret) = r) : fix Tb md 298 [R (row fI (c :: rest)) f0] = some r := by
  obtain ⟨T, hT⟩ : ∃ y_, y_ = decI c.toNat rest [] := ⟨_, rfl⟩
  rw [← hT] at rF rT
  have hrem : Rem 0 c c.toNat := by rw [inR_iff] at hc; unfold Rem; omega
  obtain ⟨ea, hea⟩ : ∃ y_, y_ = row fI (c :: rest) := ⟨_, rfl⟩
  rw [← hea]
  refine fix_fn2 (fn := ir298) tb_298 rfl rfl (by decide) rfl ?_; intro Q hQ; simp only [shutArgs, shutS, List.map_cons, List.map_nil, ir298, shut_in h0, List.head?_nil, reduceCtorEq, if_false, sExt, sHello, sAnswer, sEdit, sDeal, sBox, sDialed, sKnown]
  intro add sub mul arith eq ne lt le gt ge neg conv mn mx not beq len at' ln bd cut app allS isNil mks set o hP F ho
  have la := F.len_at hea
  have g0 : eq (len ea) 0 = false := by rw [F.eq_n la (k := 0) (m := 0) rfl]; simp
  obtain ⟨ix0, hix0⟩ : ∃ y_, y_ = ([] : List Int).length * 1 := ⟨_, rfl⟩
  have p00 : at' 1 ea 0 = some (ix0, [.int .i64 c]) := by rw [hix0]; exact F.get (pre := []) (i := 0) (show At 0 0 from rfl) hea rfl (fun _ => rfl) (by decide)
  have c0 : o 232 [I c, I 0, I 6] = some ⟨[B true], [], none⟩ := by rw [ho, ← hc]; exact ok232 ..
  have nt : not true = false := by rw [F.not]; rfl
  cbv
  rw [g0]; cbv
  rw [p00]; cbv
  rw [c0]; cbv
  rw [nt]; cbv
  rw [p00]; cbv
  refine loop_ind2 hP (σ := List Int × List Int × List Ext × List (List V) × Int × Int × Nat × Option Int) (fun s => match s.2.2.2.2.2.2.2 with
      | none => [(0, R ea .sh), (2, R [] .nl), (3, B false), (4, R s.2.2.2.1 (.ow false)), (5, I s.2.2.2.2.1), (20, I c), (21, I s.2.2.2.2.2.1)]
      | some j => [(0, R ea .sh), (2, R [] .nl), (3, B false), (4, R s.2.2.2.1 (.ow false)), (5, I s.2.2.2.2.1), (6, I j), (20, I c), (21, I s.2.2.2.2.2.1)]) (fun s => At s.2.2.2.2.1 s.2.1.length ∧ c :: rest = s.2.1 ++ s.1 ∧ s.2.2.2.1 = row fExt s.2.2.1 ∧ decI s.2.2.2.2.2.2.1 s.1 s.2.2.1 = T ∧ s.2.2.1.length ≤ s.2.1.length ∧ (∀ y ∈ s.2.2.1, y.body.length ≤ 1073741824) ∧ Rem s.2.2.2.2.2.1 c s.2.2.2.2.2.2.1) (fun s => s.2.2.2.2.2.2.1) (rest, [c], [], [], 1, 0, c.toNat, none) rfl ⟨rfl, rfl, rfl, hT.symm, by simp, by simp, hrem⟩ ?_
  intro c1 Q1 hc1 hQ1
  rintro ⟨suf, pre, acc, eo, i, q, kk, j⟩ ⟨hi, hl', hb, hd, hk, hw, hrm⟩ ih
  simp only at hi hl' hb hd hk hw hrm ih
  have hlen : pre.length + suf.length = rest.length + 1 := by have := congrArg List.length hl'; simp at this; omega
  have hi1 : At (add .i64 i 1) (pre.length + 1) := F.inc hi (by omega)
  have lo := F.len_at hb
  have hs1 : sub .i64 (len ea) i = (suf.length : Int) := by
    unfold At at hi la
    rw [F.sub, la, hi, wrap64 (by simp; omega) (by simp; omega)]; simp; omega
  cases j with
  | none =>
    cbv
    match kk, hd, hrm, ih with
    | 0, hd, hrm, ih =>
      have hT' : T = some (acc, suf) := by rw [← hd]; rfl
      have g1 : lt q c = false := by rw [F.lt]; unfold Rem at hrm; simp; omega
      obtain ⟨z, hz⟩ : ∃ y_, y_ = suf.isEmpty := ⟨_, rfl⟩
      have g2 : ne i (len ea) = not z := by
        rw [F.ne_n hi (F.len_at hea), F.not, hz, hl']
        cases suf <;> simp
      obtain ⟨v, hv⟩ : ∃ y_, y_ = areEx acc := ⟨_, rfl⟩
      have c2 : o 258 [R eo (.sp 0 0)] = some ⟨[B v], [], none⟩ := by rw [ho, hv, hb]; exact ok258 _ (by omega) (fun y hy => Nat.le_trans (hw y hy) (by decide)) rfl
      rw [g1]; cbv
      rw [hQ1]; cbv
      rw [g2]; cbv
      refine both (fun d => ?_) (fun d => ?_) <;> rw [d] <;> cbv
      · rw [hQ]; cbv
        exact congrArg some (rF (by rw [hT', decF, ← hz, F.not_t d]; rfl))
      rw [c2]; cbv
      refine both (fun d2 => ?_) (fun d2 => ?_) <;> rw [d2] <;> cbv
      · rw [hQ]; cbv
        exact congrArg some (rF (by rw [hT', decF, ← hz, F.not_f d, ← hv, F.not_t d2]; rfl))
      · rw [hQ]; cbv
        rw [hb]
        exact congrArg some (rT acc (by rw [hT', decF, ← hz, F.not_f d, ← hv, F.not_f d2]; rfl))
    | kk + 1, hd, hrm, ih =>
      have g1 : lt q c = true := by rw [F.lt]; unfold Rem at hrm; simp; omega
      have hrm' : Rem (add .i64 q 1) c kk := by unfold Rem at hrm ⊢; rw [F.add, wrap64 (by omega) (by omega)]; omega
      match suf, hl', hd, hs1, hlen with
      | [], hl', hd, hs1, hlen =>
        have hT' : T = none := by rw [← hd]; rfl
        have g2 : lt (sub .i64 (len ea) i) 2 = true := by rw [F.lt, hs1]; rfl
        rw [g1]; cbv
        rw [g2]; cbv
        rw [hQ1]; cbv
        rw [hQ]; cbv
        exact congrArg some (rF (by rw [hT']; rfl))
      | [t], hl', hd, hs1, hlen =>
        have hT' : T = none := by rw [← hd]; rfl
        have g2 : lt (sub .i64 (len ea) i) 2 = true := by rw [F.lt, hs1]; rfl
        rw [g1]; cbv
        rw [g2]; cbv
        rw [hQ1]; cbv
        rw [hQ]; cbv
        exact congrArg some (rF (by rw [hT']; rfl))
      | t :: n :: suf, hl', hd, hs1, hlen =>
        simp only [List.length_cons] at hlen
        obtain ⟨b1, hb1⟩ : ∃ y_, y_ = inMin n suf := ⟨_, rfl⟩
        obtain ⟨ix1, hix1⟩ : ∃ y_, y_ = pre.length * 1 := ⟨_, rfl⟩
        obtain ⟨ix2, hix2⟩ : ∃ y_, y_ = (pre ++ [t]).length * 1 := ⟨_, rfl⟩
        have g2 : lt (sub .i64 (len ea) i) 2 = false := by rw [F.lt, hs1]; simp; omega
        have p0 : at' 1 ea i = some (ix1, [.int .i64 t]) := by rw [hix1]; exact F.get hi hea hl' (fun _ => rfl) (by decide)
        have p1 : at' 1 ea (add .i64 i 1) = some (ix2, [.int .i64 n]) := by rw [hix2]; exact F.get (pre := pre ++ [t]) (suf := suf) (at_len hi1 (by simp)) hea (by rw [hl']; simp) (fun _ => rfl) (by decide)
        have hs : mn 4 (sub .i64 (sub .i64 (len ea) i) 2) = min 4 (suf.length : Int) := by
          have h3 : sub .i64 (len ea) i = (suf.length : Int) + 2 := by rw [hs1]; simp only [List.length_cons, Int.natCast_add]; omega
          have h4 : sub .i64 (sub .i64 (len ea) i) 2 = (suf.length : Int) := by rw [h3, F.sub, wrap64 (by omega) (by omega)]; omega
          rw [F.mn, h4]; split <;> omega
        have c3 : o 232 [I n, I 0, I (mn 4 (sub .i64 (sub .i64 (len ea) i) 2))] = some ⟨[B b1], [], none⟩ := by rw [ho, hs, hb1]; exact ok232 ..
        rw [decI, ← hb1] at hd
        rw [g1]; cbv
        rw [g2]; cbv
        rw [p1]; cbv
        rw [c3]; cbv
        refine both (fun d1 => ?_) (fun d1 => ?_) <;> rw [d1] <;> cbv
        · rw [hQ1]; cbv
          rw [hQ]; cbv
          exact congrArg some (rF (by rw [← hd, F.not_t d1]; rfl))
        have hb1' : b1 = true := F.not_f d1
        rw [hb1', if_pos rfl] at hd
        obtain ⟨hn0, hn1⟩ : 0 ≤ n ∧ n ≤ min 4 (suf.length : Int) := by rw [hb1'] at hb1; have hb1 := hb1.symm; unfold inMin at hb1; rwa [inR_iff] at hb1
        obtain ⟨k, hk⟩ : ∃ y_, y_ = n.toNat := ⟨_, rfl⟩
        rw [← hk] at hd
        have hkn : n = (k : Int) := by omega
        have hks : k ≤ suf.length := by omega
        obtain ⟨h, hh⟩ : ∃ y_, y_ = pre.length + 2 + k := ⟨_, rfl⟩
        obtain ⟨lw, hlw⟩ : ∃ y_, y_ = pre.length + 2 := ⟨_, rfl⟩
        have hi2 : At (add .i64 i 2) lw := by unfold At at hi ⊢; rw [F.add, hi, wrap64 (by omega) (by omega), hlw]; omega
        have hi3 : At (add .i64 (add .i64 i 2) n) h := by
          unfold At at hi2 ⊢; rw [F.add, hi2, wrap64 (by omega) (by omega), hh, hlw]; omega
        obtain ⟨eb, heb⟩ : ∃ y_, y_ = row fI (suf.take k) := ⟨_, rfl⟩
        have q1 : bd (ln ea) (add .i64 (add .i64 i 2) n) = some h := by rw [F.ln' hea]; exact F.bd' hi3 (by rw [hl', hh]; simp; omega)
        have q2 : bd h (add .i64 i 2) = some lw := F.bd' hi2 (by omega)
        have q3 : cut 1 ea h lw = some eb := by rw [F.cut' hea (fun _ => rfl), heb, hl', hh, hlw, cut_mid]
        obtain ⟨eo', heo'⟩ : ∃ y_, y_ = row fExt (acc ++ [⟨t, suf.take k⟩]) := ⟨_, rfl⟩
        have c5 : o 299 [R eb (.sp 0 0)] = some ⟨[R eb (.ow false)], [], none⟩ := by rw [ho, heb]; exact ok299 _ (by simp; omega) rfl
        have q6 : allS [[.int .i64 t, .row () eb]] = false := by rw [F.allS]; rfl
        have q7 : app 2 eo [[.int .i64 t, .row () eb]] = some eo' := by rw [heo', heb]; exact F.push hb (fun _ => rfl) rfl (by omega)
        rw [p1]; cbv
        rw [p0]; cbv
        rw [q1]; cbv
        rw [q2]; cbv
        rw [q3]; cbv
        rw [c5]; cbv
        rw [q6]; cbv
        rw [q7]; cbv
        refine ih (suf.drop k, pre ++ t :: n :: suf.take k, acc ++ [⟨t, suf.take k⟩], eo', add .i64 (add .i64 i 2) n, add .i64 q 1, kk, some (add .i64 (add .i64 i 2) n)) ⟨at_len hi3 (by rw [hh]; simp; omega), ?_, heo', hd, by simp; omega, ?_, hrm'⟩ (by simp)
        · simp only; rw [hl']; simp
        · intro y hy
          rcases List.mem_append.1 hy with hy | hy
          · exact hw y hy
          · simp at hy; subst hy; simp; omega
  | some jj =>
    cbv
    match kk, hd, hrm, ih with
    | 0, hd, hrm, ih =>
      have hT' : T = some (acc, suf) := by rw [← hd]; rfl
      have g1 : lt q c = false := by rw [F.lt]; unfold Rem at hrm; simp; omega
      obtain ⟨z, hz⟩ : ∃ y_, y_ = suf.isEmpty := ⟨_, rfl⟩
      have g2 : ne i (len ea) = not z := by
        rw [F.ne_n hi (F.len_at hea), F.not, hz, hl']
        cases suf <;> simp
      obtain ⟨v, hv⟩ : ∃ y_, y_ = areEx acc := ⟨_, rfl⟩
      have c2 : o 258 [R eo (.sp 0 0)] = some ⟨[B v], [], none⟩ := by rw [ho, hv, hb]; exact ok258 _ (by omega) (fun y hy => Nat.le_trans (hw y hy) (by decide)) rfl
      rw [g1]; cbv
      rw [hQ1]; cbv
      rw [g2]; cbv
      refine both (fun d => ?_) (fun d => ?_) <;> rw [d] <;> cbv
      · rw [hQ]; cbv
        exact congrArg some (rF (by rw [hT', decF, ← hz, F.not_t d]; rfl))
      rw [c2]; cbv
      refine both (fun d2 => ?_) (fun d2 => ?_) <;> rw [d2] <;> cbv
      · rw [hQ]; cbv
        exact congrArg some (rF (by rw [hT', decF, ← hz, F.not_f d, ← hv, F.not_t d2]; rfl))
      · rw [hQ]; cbv
        rw [hb]
        exact congrArg some (rT acc (by rw [hT', decF, ← hz, F.not_f d, ← hv, F.not_f d2]; rfl))
    | kk + 1, hd, hrm, ih =>
      have g1 : lt q c = true := by rw [F.lt]; unfold Rem at hrm; simp; omega
      have hrm' : Rem (add .i64 q 1) c kk := by unfold Rem at hrm ⊢; rw [F.add, wrap64 (by omega) (by omega)]; omega
      match suf, hl', hd, hs1, hlen with
      | [], hl', hd, hs1, hlen =>
        have hT' : T = none := by rw [← hd]; rfl
        have g2 : lt (sub .i64 (len ea) i) 2 = true := by rw [F.lt, hs1]; rfl
        rw [g1]; cbv
        rw [g2]; cbv
        rw [hQ1]; cbv
        rw [hQ]; cbv
        exact congrArg some (rF (by rw [hT']; rfl))
      | [t], hl', hd, hs1, hlen =>
        have hT' : T = none := by rw [← hd]; rfl
        have g2 : lt (sub .i64 (len ea) i) 2 = true := by rw [F.lt, hs1]; rfl
        rw [g1]; cbv
        rw [g2]; cbv
        rw [hQ1]; cbv
        rw [hQ]; cbv
        exact congrArg some (rF (by rw [hT']; rfl))
      | t :: n :: suf, hl', hd, hs1, hlen =>
        simp only [List.length_cons] at hlen
        obtain ⟨b1, hb1⟩ : ∃ y_, y_ = inMin n suf := ⟨_, rfl⟩
        obtain ⟨ix1, hix1⟩ : ∃ y_, y_ = pre.length * 1 := ⟨_, rfl⟩
        obtain ⟨ix2, hix2⟩ : ∃ y_, y_ = (pre ++ [t]).length * 1 := ⟨_, rfl⟩
        have g2 : lt (sub .i64 (len ea) i) 2 = false := by rw [F.lt, hs1]; simp; omega
        have p0 : at' 1 ea i = some (ix1, [.int .i64 t]) := by rw [hix1]; exact F.get hi hea hl' (fun _ => rfl) (by decide)
        have p1 : at' 1 ea (add .i64 i 1) = some (ix2, [.int .i64 n]) := by rw [hix2]; exact F.get (pre := pre ++ [t]) (suf := suf) (at_len hi1 (by simp)) hea (by rw [hl']; simp) (fun _ => rfl) (by decide)
        have hs : mn 4 (sub .i64 (sub .i64 (len ea) i) 2) = min 4 (suf.length : Int) := by
          have h3 : sub .i64 (len ea) i = (suf.length : Int) + 2 := by rw [hs1]; simp only [List.length_cons, Int.natCast_add]; omega
          have h4 : sub .i64 (sub .i64 (len ea) i) 2 = (suf.length : Int) := by rw [h3, F.sub, wrap64 (by omega) (by omega)]; omega
          rw [F.mn, h4]; split <;> omega
        have c3 : o 232 [I n, I 0, I (mn 4 (sub .i64 (sub .i64 (len ea) i) 2))] = some ⟨[B b1], [], none⟩ := by rw [ho, hs, hb1]; exact ok232 ..
        rw [decI, ← hb1] at hd
        rw [g1]; cbv
        rw [g2]; cbv
        rw [p1]; cbv
        rw [c3]; cbv
        refine both (fun d1 => ?_) (fun d1 => ?_) <;> rw [d1] <;> cbv
        · rw [hQ1]; cbv
          rw [hQ]; cbv
          exact congrArg some (rF (by rw [← hd, F.not_t d1]; rfl))
        have hb1' : b1 = true := F.not_f d1
        rw [hb1', if_pos rfl] at hd
        obtain ⟨hn0, hn1⟩ : 0 ≤ n ∧ n ≤ min 4 (suf.length : Int) := by rw [hb1'] at hb1; have hb1 := hb1.symm; unfold inMin at hb1; rwa [inR_iff] at hb1
        obtain ⟨k, hk⟩ : ∃ y_, y_ = n.toNat := ⟨_, rfl⟩
        rw [← hk] at hd
        have hkn : n = (k : Int) := by omega
        have hks : k ≤ suf.length := by omega
        obtain ⟨h, hh⟩ : ∃ y_, y_ = pre.length + 2 + k := ⟨_, rfl⟩
        obtain ⟨lw, hlw⟩ : ∃ y_, y_ = pre.length + 2 := ⟨_, rfl⟩
        have hi2 : At (add .i64 i 2) lw := by unfold At at hi ⊢; rw [F.add, hi, wrap64 (by omega) (by omega), hlw]; omega
        have hi3 : At (add .i64 (add .i64 i 2) n) h := by
          unfold At at hi2 ⊢; rw [F.add, hi2, wrap64 (by omega) (by omega), hh, hlw]; omega
        obtain ⟨eb, heb⟩ : ∃ y_, y_ = row fI (suf.take k) := ⟨_, rfl⟩
        have q1 : bd (ln ea) (add .i64 (add .i64 i 2) n) = some h := by rw [F.ln' hea]; exact F.bd' hi3 (by rw [hl', hh]; simp; omega)
        have q2 : bd h (add .i64 i 2) = some lw := F.bd' hi2 (by omega)
        have q3 : cut 1 ea h lw = some eb := by rw [F.cut' hea (fun _ => rfl), heb, hl', hh, hlw, cut_mid]
        obtain ⟨eo', heo'⟩ : ∃ y_, y_ = row fExt (acc ++ [⟨t, suf.take k⟩]) := ⟨_, rfl⟩
        have c5 : o 299 [R eb (.sp 0 0)] = some ⟨[R eb (.ow false)], [], none⟩ := by rw [ho, heb]; exact ok299 _ (by simp; omega) rfl
        have q6 : allS [[.int .i64 t, .row () eb]] = false := by rw [F.allS]; rfl
        have q7 : app 2 eo [[.int .i64 t, .row () eb]] = some eo' := by rw [heo', heb]; exact F.push hb (fun _ => rfl) rfl (by omega)
        rw [p1]; cbv
        rw [p0]; cbv
        rw [q1]; cbv
        rw [q2]; cbv
        rw [q3]; cbv
        rw [c5]; cbv
        rw [q6]; cbv
        rw [q7]; cbv
        refine ih (suf.drop k, pre ++ t :: n :: suf.take k, acc ++ [⟨t, suf.take k⟩], eo', add .i64 (add .i64 i 2) n, add .i64 q 1, kk, some (add .i64 (add .i64 i 2) n)) ⟨at_len hi3 (by rw [hh]; simp; omega), ?_, heo', hd, by simp; omega, ?_, hrm'⟩ (by simp)
        · simp only; rw [hl']; simp
        · intro y hy
          rcases List.mem_append.1 hy with hy | hy
          · exact hw y hy
          · simp at hy; subst hy; simp; omega
theorem ok298_b (c : Int) (rest : List Int) {f0 : Fl} (h0 : inFl f0 = true) (hc : inR c 0 6 = false) : fix Tb md 298 [R (row fI (c :: rest)) f0] = some ⟨[R [] .nl, B false], [], none⟩ := by
  generalize hr : (⟨_, [], none⟩ : Ret) = r
  obtain ⟨ea, hea⟩ : ∃ y_, y_ = row fI (c :: rest) := ⟨_, rfl⟩
  rw [← hea]
  refine fix_fn2 (fn := ir298) tb_298 rfl rfl (by decide) rfl ?_; intro Q hQ; simp only [shutArgs, shutS, List.map_cons, List.map_nil, ir298, shut_in h0, List.head?_nil, reduceCtorEq, if_false, sExt, sHello, sAnswer, sEdit, sDeal, sBox, sDialed, sKnown]
  intro add sub mul arith eq ne lt le gt ge neg conv mn mx not beq len at' ln bd cut app allS isNil mks set o hP F ho
  have la := F.len_at hea
  have g0 : eq (len ea) 0 = false := by rw [F.eq_n la (k := 0) (m := 0) rfl]; simp
  obtain ⟨ix0, hix0⟩ : ∃ y_, y_ = ([] : List Int).length * 1 := ⟨_, rfl⟩
  have p00 : at' 1 ea 0 = some (ix0, [.int .i64 c]) := by rw [hix0]; exact F.get (pre := []) (i := 0) (show At 0 0 from rfl) hea rfl (fun _ => rfl) (by decide)
  have c0 : o 232 [I c, I 0, I 6] = some ⟨[B false], [], none⟩ := by rw [ho, ← hc]; exact ok232 ..
  have nt : not false = true := by rw [F.not]; rfl
  cbv
  rw [g0]; cbv
  rw [p00]; cbv
  rw [c0]; cbv
  rw [nt]; cbv
  rw [hQ]; cbv
  exact congrArg some hr
theorem ok298 (l : List Int) (hl : l.length ≤ 1073741824) {f0 : Fl} (h0 : inFl f0 = true) (r : Ret) (rF : decQ l = ([], false) → (⟨[R [] .nl, B false], [], none⟩ : Ret) = r) (rT : ∀ es, decQ l = (es, true) → (⟨[R (row fExt es) (.ow false), B true], [], none⟩ : Ret) = r) : fix Tb md 298 [R (row fI l) f0] = some r := by
  cases l with
  | cons c rest =>
    cases hc : inR c 0 6 with
    | true =>
      have h1 : decQ (c :: rest) = decF (decI c.toNat rest []) := by show (if inR c 0 6 = true then _ else _) = _; rw [if_pos hc]
      rw [h1] at rF rT
      exact ok298_c c rest (by simp at hl; omega) h0 hc r rF rT
    | false =>
      have h1 : decQ (c :: rest) = ([], false) := by show (if inR c 0 6 = true then _ else _) = _; rw [hc]; rfl
      rw [← rF h1]
      exact ok298_b c rest h0 hc
  | nil =>
    rw [← rF rfl]
    show fix Tb md 298 [R [] f0] = some ⟨[R [] .nl, B false], [], none⟩
    generalize hr : (⟨_, [], none⟩ : Ret) = r
    refine fix_fn2 (fn := ir298) tb_298 rfl rfl (by decide) rfl ?_; intro Q hQ; simp only [shutArgs, shutS, List.map_cons, List.map_nil, ir298, shut_in h0, List.head?_nil, reduceCtorEq, if_false, sExt, sHello, sAnswer, sEdit, sDeal, sBox, sDialed, sKnown]
    intro add sub mul arith eq ne lt le gt ge neg conv mn mx not beq len at' ln bd cut app allS isNil mks set o hP F ho
    have g0 : eq (len []) 0 = true := by rw [F.eq, F.len]; rfl
    cbv
    rw [g0]; cbv
    rw [hQ]; cbv
    exact congrArg some hr

/- impl.ReadHello -/
theorem ok158_c (n : Int) (rest : List Int) (hl : rest.length ≤ 1048576) {f0 : Fl} (h0 : inFl f0 = true) (r : Ret) (rF : rdI (n :: rest) = (⟨[], []⟩, false) → (⟨[sHello [] [] .nl .nl, B false], [], none⟩ : Ret) = r) (rT : ∀ h, rdI (n :: rest) = (h, true) → (⟨[sHello (row fI h.versions) (row fExt h.exts) (.ow false) (.ow false), B true], [], none⟩ : Ret) = r) : fix Tb md 158 [R (row fI (n :: rest)) f0] = some r := by
  obtain ⟨b1, hb1⟩ : ∃ y_, y_ = inNine n rest := ⟨_, rfl⟩
  obtain ⟨k, hk⟩ : ∃ y_, y_ = n.toNat := ⟨_, rfl⟩
  have hG : rdI (n :: rest) = if b1 = true then rdK (rest.take k) (decQ (rest.drop k)) else (⟨[], []⟩, false) := by rw [hb1, hk]; rfl
  rw [hG] at rF rT
  clear hG
  have hin : b1 = true → 1 ≤ n ∧ n = (k : Int) ∧ k ≤ rest.length := by
    intro h
    rw [hb1] at h
    unfold inNine at h
    rw [inR_iff] at h
    omega
  obtain ⟨W, hW⟩ : ∃ y_, y_ = rest.take k := ⟨_, rfl⟩
  obtain ⟨D, hD⟩ : ∃ y_, y_ = decQ (rest.drop k) := ⟨_, rfl⟩
  have hwl : W.length ≤ 1048576 := by rw [hW]; simp; omega
  have hml : D.1.length ≤ 1048576 ∧ ∀ y ∈ D.1, y.body.length ≤ 1048576 := by rw [hD]; exact decQ_mid (by simp; omega)
  rw [← hW, ← hD] at rF rT
  obtain ⟨ea, hea⟩ : ∃ y_, y_ = row fI (n :: rest) := ⟨_, rfl⟩
  rw [← hea]
  have cD : (D = ([], false) ∧ fix Tb md 298 [R (row fI (rest.drop k)) (.sp 0 0)] = some ⟨[R [] .nl, B false], [], none⟩) ∨ (D.2 = true ∧ fix Tb md 298 [R (row fI (rest.drop k)) (.sp 0 0)] = some ⟨[R (row fExt D.1) (.ow false), B true], [], none⟩) := by
    have h5 := ok298 (rest.drop k) (by simp; omega) (f0 := .sp 0 0) rfl
    rcases decQ_cases (rest.drop k) with ⟨es, h6⟩ | h6
    · refine .inr ⟨by rw [hD, h6], ?_⟩
      refine h5 _ (fun h7 => by rw [h6] at h7; cases h7) (fun es' h7 => ?_)
      rw [hD, h7]
    · refine .inl ⟨by rw [hD, h6], h5 _ (fun _ => rfl) (fun es' h7 => by rw [h6] at h7; cases h7)⟩
  obtain ⟨ex, hex⟩ : ∃ y_, y_ = row fExt D.1 := ⟨_, rfl⟩
  obtain ⟨ev, hev⟩ : ∃ y_, y_ = row fI W := ⟨_, rfl⟩
  obtain ⟨eb, heb⟩ : ∃ y_, y_ = row fI (rest.drop k) := ⟨_, rfl⟩
  obtain ⟨u, hu⟩ : ∃ y_, y_ = isHel ⟨W, D.1⟩ := ⟨_, rfl⟩
  have rF1 : b1 = false → (⟨[sHello [] [] .nl .nl, B false], [], none⟩ : Ret) = r := fun h => rF (by rw [h]; rfl)
  have rF2 : b1 = true → D.2 = false → (⟨[sHello [] [] .nl .nl, B false], [], none⟩ : Ret) = r := fun h h2 => rF (by rw [h, if_pos rfl, rdK, h2]; rfl)
  have rF3 : b1 = true → u = false → (⟨[sHello [] [] .nl .nl, B false], [], none⟩ : Ret) = r := fun h h3 => rF (by rw [h, if_pos rfl, rdK, ← hu, h3]; simp)
  have rT1 : b1 = true → D.2 = true → u = true → (⟨[sHello ev ex (.ow false) (.ow false), B true], [], none⟩ : Ret) = r := fun h h2 h3 => by
    rw [hev, hex]; exact rT ⟨W, D.1⟩ (by rw [h, if_pos rfl, rdK, ← hu, h2, h3]; rfl)
  clear rF rT
  rw [← hex, ← heb] at cD
  refine fix_fn2 (fn := ir158) tb_158 rfl rfl (by decide) rfl ?_; intro Q hQ; simp only [shutArgs, shutS, List.map_cons, List.map_nil, ir158, shut_in h0, List.head?_nil, reduceCtorEq, if_false, sExt, sHello, sAnswer, sEdit, sDeal, sBox, sDialed, sKnown]
  intro add sub mul arith eq ne lt le gt ge neg conv mn mx not beq len at' ln bd cut app allS isNil mks set o hP F ho
  have la := F.len_at hea
  have g0 : eq (len ea) 0 = false := by rw [F.eq_n la (k := 0) (m := 0) rfl]; simp
  obtain ⟨ix0, hix0⟩ : ∃ y_, y_ = ([] : List Int).length * 1 := ⟨_, rfl⟩
  have p00 : at' 1 ea 0 = some (ix0, [.int .i64 n]) := by rw [hix0]; exact F.get (pre := []) (i := 0) (show At 0 0 from rfl) hea rfl (fun _ => rfl) (by decide)
  have hs : mn 9 (sub .i64 (len ea) 1) = min 9 (rest.length : Int) := by
    unfold At at la
    rw [F.mn, F.sub, la, wrap64 (by simp only [List.length_cons, Int.natCast_add]; omega) (by simp only [List.length_cons, Int.natCast_add]; omega)]; simp only [List.length_cons, Int.natCast_add]; split <;> omega
  have c1 : o 232 [I n, I 1, I (mn 9 (sub .i64 (len ea) 1))] = some ⟨[B b1], [], none⟩ := by rw [ho, hs, hb1]; exact ok232 ..
  obtain ⟨h, hh⟩ : ∃ y_, y_ = 1 + k := ⟨_, rfl⟩
  have hq : b1 = true → bd (ln ea) (add .i64 1 n) = some h := fun hb => by
    obtain ⟨h1, h2, h3⟩ := hin hb
    rw [F.ln' hea]; refine F.bd' ?_ (by rw [hh]; simp; omega)
    unfold At; rw [F.add, wrap64 (by omega) (by omega), hh, h2]; omega
  have q2 : cut 1 ea (ln ea) h = some eb := by rw [F.ln' hea, F.cut' hea (fun _ => rfl), heb, hh, cut_tail]
  obtain ⟨one, hone⟩ : ∃ y_, y_ = 1 := ⟨_, rfl⟩
  have q3 : bd h 1 = some one := by rw [hone]; exact F.bd' (show At 1 1 from rfl) (by omega)
  have q4 : cut 1 ea h one = some ev := by rw [F.cut' hea (fun _ => rfl), hev, hh, hone, cut_head, hW]
  have c2 : o 299 [R ev (.sp 0 0)] = some ⟨[R ev (.ow false)], [], none⟩ := by rw [ho, hev]; exact ok299 _ (by omega) rfl
  have c4 : o 113 [sHello ev ex (.sp 0 0) (.sp 0 1)] = some ⟨[B u], [], none⟩ := by rw [ho, hu, hev, hex]; exact ok113 ⟨W, D.1⟩ (by simp only; omega) (by simp only; omega) (fun y hy => Nat.le_trans (hml.2 y hy) (by decide)) rfl rfl
  cbv
  rw [g0]; cbv
  rw [p00]; cbv
  rw [c1]; cbv
  refine both (fun d => ?_) (fun d => ?_) <;> rw [d] <;> cbv
  · rw [hQ]; cbv
    exact congrArg some (rF1 (F.not_t d))
  have hb := F.not_f d
  have q1 := hq hb
  rw [p00]; cbv
  rw [q1]; cbv
  rw [q2]; cbv
  have nt : not false = true := by rw [F.not]; rfl
  have nf : not true = false := by rw [F.not]; rfl
  rcases cD with ⟨k1, k2⟩ | ⟨k1, k2⟩
  · have c3 : o 298 [R eb (.sp 0 0)] = some ⟨[R [] .nl, B false], [], none⟩ := by rw [ho]; exact k2
    rw [c3]; cbv
    rw [p00]; cbv
    rw [q1]; cbv
    rw [q3]; cbv
    rw [q4]; cbv
    rw [c2]; cbv
    rw [nt]; cbv
    rw [hQ]; cbv
    exact congrArg some (rF2 hb (by rw [k1]))
  · have c3 : o 298 [R eb (.sp 0 0)] = some ⟨[R ex (.ow false), B true], [], none⟩ := by rw [ho]; exact k2
    rw [c3]; cbv
    rw [p00]; cbv
    rw [q1]; cbv
    rw [q3]; cbv
    rw [q4]; cbv
    rw [c2]; cbv
    rw [nf]; cbv
    rw [c4]; cbv
    refine both (fun d3 => ?_) (fun d3 => ?_) <;> rw [d3] <;> cbv
    · rw [hQ]; cbv
      exact congrArg some (rF3 hb (F.not_t d3))
    · rw [hQ]; cbv
      exact congrArg some (rT1 hb k1 (F.not_f d3))
theorem ok158 (l : List Int) (hl : l.length ≤ 1048576) {f0 : Fl} (h0 : inFl f0 = true) :
    fix Tb md 158 [R (row fI l) f0] = some ⟨[sHello (row fI (rdV l).versions) (row fExt (rdV l).exts) (.ow false) (.ow false), B (rdOk l)], [], none⟩ ∨
    ((rdV l).versions = [] ∧ (rdV l).exts = [] ∧ fix Tb md 158 [R (row fI l) f0] = some ⟨[sHello [] [] .nl .nl, B (rdOk l)], [], none⟩) := by
  unfold rdV rdOk
  cases l with
  | cons n rest =>
    rcases rdG_cases (n :: rest) with ⟨h, hg⟩ | hg
    · rw [hg]
      rw [rdG_I] at hg
      exact .inl (ok158_c n rest (by simp at hl; omega) h0 _ (fun h2 => by rw [hg] at h2; cases h2) (fun h2 h3 => by rw [hg] at h3; cases h3; rfl))
    · rw [hg]
      rw [rdG_I] at hg
      exact .inr ⟨rfl, rfl, ok158_c n rest (by simp at hl; omega) h0 _ (fun _ => rfl) (fun h2 h3 => by rw [hg] at h3; cases h3)⟩
  | nil =>
    refine .inr ⟨rfl, rfl, ?_⟩
    show fix Tb md 158 [R [] f0] = some ⟨[sHello [] [] .nl .nl, B false], [], none⟩
    generalize hr : (⟨_, [], none⟩ : Ret) = r
    refine fix_fn2 (fn := ir158) tb_158 rfl rfl (by decide) rfl ?_; intro Q hQ; simp only [shutArgs, shutS, List.map_cons, List.map_nil, ir158, shut_in h0, List.head?_nil, reduceCtorEq, if_false, sExt, sHello, sAnswer, sEdit, sDeal, sBox, sDialed, sKnown]
    intro add sub mul arith eq ne lt le gt ge neg conv mn mx not beq len at' ln bd cut app allS isNil mks set o hP F ho
    have g0 : eq (len []) 0 = true := by rw [F.eq, F.len]; rfl
    cbv
    rw [g0]; cbv
    rw [hQ]; cbv
    exact congrArg some hr

/- laws.toIntS -/
theorem ok76 (l : List Int) (hl : l.length ≤ 1099511627776) {f0 : Fl} (h0 : inFl f0 = true) : fix Tb md 76 [R (row fI l) f0] = some ⟨[R (row fI l) (.ow false)], [], none⟩ := by
  refine fix_fn (fn := ir76) tb_76 rfl rfl (by decide) rfl ?_; simp only [shutArgs, shutS, List.map_cons, List.map_nil, ir76, shut_in h0, List.head?_nil, reduceCtorEq, if_false, sExt, sHello, sAnswer, sEdit, sDeal, sBox, sDialed, sKnown]
  generalize hr : (⟨_, [], none⟩ : Ret) = r
  obtain ⟨e1, he1⟩ : ∃ y_, y_ = row fI l := ⟨_, rfl⟩
  rw [← he1] at hr ⊢
  intro add sub mul arith eq ne lt le gt ge neg conv mn mx not beq len at' ln bd cut app allS isNil mks set o hP F ho
  have la := F.len_at he1
  cbv
  obtain ⟨e2, he2⟩ : ∃ y_, y_ = row fI (List.replicate l.length 0) := ⟨_, rfl⟩
  rw [show mks [.int .i64 0] (len e1) (len e1) = some e2 by rw [F.mks, show len e1 = _ from la, he2]; exact row_mk (f := fI) (a := 0) rfl (by simp [fI]) hl]; cbv
  refine loop_ind hP (σ := List Int × List Int × List (List V) × Int) (fun s => [(0, R e1 .sh), (2, R [] .nl), (3, R s.2.2.1 (.ow false)), (4, I s.2.2.2)])
    (fun s => At s.2.2.2 s.2.1.length ∧ l = s.2.1 ++ s.1 ∧ s.2.2.1 = row fI (s.2.1 ++ List.replicate s.1.length 0)) (fun s => s.1.length) (l, [], e2, 0) rfl ⟨rfl, rfl, by simpa using he2⟩ ?_
  rintro ⟨suf, pre, eo, i⟩ ⟨hi, hl', heo⟩ ih
  simp only at hi hl' heo ih
  cbv
  cases suf with
  | nil =>
    rw [F.lt_f hi la (by simp [hl'])]; cbv
    rw [← hr, heo, he1, hl']; simp
  | cons x suf =>
    rw [F.lt_t hi la (by simp [hl'])]; cbv
    obtain ⟨ix, hix⟩ : ∃ y_, y_ = pre.length * 1 := ⟨_, rfl⟩
    rw [show at' 1 e1 i = some (ix, [.int .i64 x]) by rw [hix]; exact F.get hi he1 hl' (fun _ => rfl) (by decide)]; cbv
    rw [show at' 1 eo i = some (ix, [.int .i64 0]) by rw [hix]; exact F.get hi heo rfl (fun _ => rfl) (by decide)]; cbv
    obtain ⟨eo', heo'⟩ : ∃ y_, y_ = row fI (pre ++ x :: List.replicate suf.length 0) := ⟨_, rfl⟩
    rw [show set eo ix [.int .i64 x] = some eo' by rw [F.set, heo, hix, heo']; exact set_one (fun _ => rfl) rfl]; cbv
    refine ih (suf, pre ++ [x], eo', add .i64 i 1) ⟨at_len (F.inc hi (by simp [hl'] at hl; omega)) (by simp), by simp [hl'], by simp [heo']⟩ (by simp)

/- laws.eqIntS -/
theorem ok79 (a b : List Int) (hl : a.length ≤ 1099511627776) {f0 f1 : Fl} (h0 : inFl f0 = true) (h1 : inFl f1 = true) : fix Tb md 79 [R (row fI a) f0, R (row fI b) f1] = some ⟨[B (decide (a = b))], [], none⟩ := by
  refine fix_fn (fn := ir79) tb_79 rfl rfl (by decide) rfl ?_; simp only [shutArgs, shutS, List.map_cons, List.map_nil, ir79, shut_in h0, shut_in h1, List.head?_nil, reduceCtorEq, if_false, sExt, sHello, sAnswer, sEdit, sDeal, sBox, sDialed, sKnown]
  generalize hr : (⟨_, [], none⟩ : Ret) = r
  obtain ⟨ea, hea⟩ : ∃ y_, y_ = row fI a := ⟨_, rfl⟩
  obtain ⟨eb, heb⟩ : ∃ y_, y_ = row fI b := ⟨_, rfl⟩
  rw [← hea, ← heb]
  intro add sub mul arith eq ne lt le gt ge neg conv mn mx not beq len at' ln bd cut app allS isNil mks set o hP F ho
  have la := F.len_at hea
  have lb := F.len_at heb
  cbv
  by_cases hab : a.length = b.length
  · rw [F.ne_f (by unfold At at la lb; omega)]; cbv
    refine loop_ind hP (σ := List Int × List Int × List Int × Int) (fun s => [(0, R ea .sh), (1, R eb .sh), (4, B false), (5, I s.2.2.2)]) (fun s => At s.2.2.2 s.1.length ∧ a = s.1 ++ s.2.1 ∧ b = s.1 ++ s.2.2.1) (fun s => s.2.1.length) ([], a, b, 0) rfl ⟨rfl, rfl, rfl⟩ ?_
    rintro ⟨pre, sa, sb, i⟩ ⟨hi, ha, hb⟩ ih
    simp only at hi ha hb ih
    cbv
    have hlen : sa.length = sb.length := by simp [ha, hb] at hab; exact hab
    match sa, sb, hlen, ha, hb with
    | [], [], _, ha, hb =>
      rw [F.lt_f hi la (by simp [ha])]; cbv
      rw [← hr]; simp [ha, hb]
    | x :: sa, y :: sb, _, ha, hb =>
      rw [F.lt_t hi la (by simp [ha])]; cbv
      obtain ⟨ix, hix⟩ : ∃ y_, y_ = pre.length * 1 := ⟨_, rfl⟩
      rw [show at' 1 ea i = some (ix, [.int .i64 x]) by rw [hix]; exact F.get hi hea ha (fun _ => rfl) (by decide)]; cbv
      rw [show at' 1 eb i = some (ix, [.int .i64 y]) by rw [hix]; exact F.get hi heb hb (fun _ => rfl) (by decide)]; cbv
      by_cases hxy : x = y
      · rw [F.ne_f hxy]; cbv
        refine ih (pre ++ [x], sa, sb, add .i64 i 1) ⟨at_len (F.inc hi (by simp [ha] at hl; omega)) (by simp), by simp [ha], by simp [hb, hxy]⟩ (by simp)
      · rw [F.ne_t hxy]; cbv
        rw [← hr]; simp [ha, hb, hxy]
  · rw [F.ne_t (by unfold At at la lb; omega)]; cbv
    rw [← hr]
    simp
    intro e; exact hab (by rw [e])
theorem ok79t (a : List Int) (hl : a.length ≤ 1099511627776) {f0 f1 : Fl} (h0 : inFl f0 = true) (h1 : inFl f1 = true) : fix Tb md 79 [R (row fI a) f0, R (row fI a) f1] = some ⟨[B true], [], none⟩ := by simpa using ok79 a a hl h0 h1

/- laws.eqExt -/
theorem ok321 (x : Ext) (w : x.Mid) {f0 : Fl} (q0 : inFl f0 = true) {g0 : Fl} (p0 : inFl g0 = true) :
    fix Tb md 321 [sExt x.tag (row fI x.body) f0, sExt x.tag (row fI x.body) g0] = some ⟨[B true], [], none⟩ := by
  refine fix_fn (fn := ir321) tb_321 rfl rfl (by decide) rfl ?_; simp only [shutArgs, shutS, List.map_cons, List.map_nil, ir321, shut_in q0, shut_in p0, List.head?_nil, reduceCtorEq, if_false, sExt, sHello, sAnswer, sEdit, sDeal, sBox, sDialed, sKnown]
  generalize hr : (⟨_, [], none⟩ : Ret) = r
  obtain ⟨e1, he1⟩ : ∃ y_, y_ = row fI x.body := ⟨_, rfl⟩
  rw [← he1]
  unfold Ext.Mid at w
  intro add sub mul arith eq ne lt le gt ge neg conv mn mx not beq len at' ln bd cut app allS isNil mks set o hP F ho
  have c1 : o 79 [R e1 (.sp 0 0), R e1 (.sp 1 0)] = some ⟨[B true], [], none⟩ := by rw [ho, he1]; exact ok79t _ (by have := w; omega) rfl rfl
  cbv
  rw [F.ne_f rfl]; cbv
  rw [c1]; cbv
  rw [show not true = false by rw [F.not]; rfl]; cbv
  exact congrArg some hr

/- laws.eqExtS -/
theorem ok200 (l : List (Ext)) (w : l.length ≤ 1073741824 ∧ ∀ y ∈ l, y.Mid) {f0 f1 : Fl} (q0 : inFl f0 = true) (q1 : inFl f1 = true) :
    fix Tb md 200 [R (row fExt l) f0, R (row fExt l) f1] = some ⟨[B true], [], none⟩ := by
  have w1 := w.1
  refine fix_fn (fn := ir200) tb_200 rfl rfl (by decide) rfl ?_; simp only [shutArgs, shutS, List.map_cons, List.map_nil, ir200, shut_in q0, shut_in q1, List.head?_nil, reduceCtorEq, if_false, sExt, sHello, sAnswer, sEdit, sDeal, sBox, sDialed, sKnown]
  generalize hr : (⟨_, [], none⟩ : Ret) = r
  obtain ⟨ea, hea⟩ : ∃ y_, y_ = row fExt l := ⟨_, rfl⟩
  rw [← hea]
  intro add sub mul arith eq ne lt le gt ge neg conv mn mx not beq len at' ln bd cut app allS isNil mks set o hP F ho
  have la := F.len_at hea
  cbv
  rw [F.ne_f rfl]; cbv
  refine loop_ind hP (σ := List (Ext) × List (Ext) × Int) (fun s => [(0, R ea .sh), (1, R ea .sh), (4, B false), (5, I s.2.2)])
    (fun s => At s.2.2 s.2.1.length ∧ l = s.2.1 ++ s.1) (fun s => s.1.length) (l, [], 0) rfl ⟨rfl, rfl⟩ ?_
  rintro ⟨suf, pre, i⟩ ⟨hi, hl'⟩ ih
  simp only at hi hl' ih
  cbv
  cases suf with
  | nil =>
    rw [F.lt_f hi la (by simp [hl'])]; cbv
    exact congrArg some hr
  | cons x suf =>
    rw [F.lt_t hi la (by simp [hl'])]; cbv
    obtain ⟨e1, he1⟩ : ∃ y_, y_ = row fI x.body := ⟨_, rfl⟩
    obtain ⟨ix, hix⟩ : ∃ y_, y_ = pre.length * 2 := ⟨_, rfl⟩
    have a1 : at' 2 ea i = some (ix, [.int .i64 x.tag, .row () e1]) := by rw [hix, he1]; exact F.get hi hea hl' (fun _ => rfl) (by decide)
    rw [a1]; cbv
    try (rw [a1]; cbv)
    have c1 : o 321 [sExt x.tag e1 (.sp 0 1), sExt x.tag e1 (.sp 1 1)] = some ⟨[B true], [], none⟩ := by rw [ho, he1]; exact ok321 x (w.2 x (by rw [hl']; simp)) rfl rfl
    rw [c1]; cbv
    rw [show not true = false by rw [F.not]; rfl]; cbv
    refine ih (suf, pre ++ [x], add .i64 i 1) ⟨at_len (F.inc hi (by simp [hl'] at w1; omega)) (by simp), by simp [hl']⟩ (by simp)

/- laws.eqHello -/
theorem ok78 (x : Hello) (w : x.Mid) {f0 f1 : Fl} (q0 : inFl f0 = true) (q1 : inFl f1 = true) {g0 g1 : Fl} (p0 : inFl g0 = true) (p1 : inFl g1 = true) :
    fix Tb md 78 [sHello (row fI x.versions) (row fExt x.exts) f0 f1, sHello (row fI x.versions) (row fExt x.exts) g0 g1] = some ⟨[B true], [], none⟩ := by
  refine fix_fn (fn := ir78) tb_78 rfl rfl (by decide) rfl ?_; simp only [shutArgs, shutS, List.map_cons, List.map_nil, ir78, shut_in q0, shut_in q1, shut_in p0, shut_in p1, List.head?_nil, reduceCtorEq, if_false, sExt, sHello, sAnswer, sEdit, sDeal, sBox, sDialed, sKnown]
  generalize hr : (⟨_, [], none⟩ : Ret) = r
  obtain ⟨e1, he1⟩ : ∃ y_, y_ = row fI x.versions := ⟨_, rfl⟩
  obtain ⟨e2, he2⟩ : ∃ y_, y_ = row fExt x.exts := ⟨_, rfl⟩
  rw [← he1, ← he2]
  unfold Hello.Mid at w
  intro add sub mul arith eq ne lt le gt ge neg conv mn mx not beq len at' ln bd cut app allS isNil mks set o hP F ho
  have c1 : o 79 [R e1 (.sp 0 0), R e1 (.sp 1 0)] = some ⟨[B true], [], none⟩ := by rw [ho, he1]; exact ok79t _ (by have := w.1; omega) rfl rfl
  have c2 : o 200 [R e2 (.sp 0 0), R e2 (.sp 1 0)] = some ⟨[B true], [], none⟩ := by rw [ho, he2]; exact ok200 _ w.2 rfl rfl
  cbv
  rw [c1]; cbv
  rw [show not true = false by rw [F.not]; rfl]; cbv
  rw [c2]; cbv
  rw [show not true = false by rw [F.not]; rfl]; cbv
  exact congrArg some hr

/- laws.heldIntS -/
theorem ok125 (l : List Int) (k : Int) (hk : Lim k l.length) (hl : l.length ≤ 1099511627776) {f0 : Fl} (h0 : inFl f0 = true) : fix Tb md 125 [R (row fI (mI l k)) f0, I k] = some ⟨[I (k + (l.length : Int))], [], none⟩ := by
  obtain ⟨t, ht⟩ : ∃ y_, y_ = k + (l.length : Int) := ⟨_, rfl⟩
  have hT : AtK t k l.length := ht
  rw [← ht]
  clear ht
  refine fix_fn (fn := ir125) tb_125 rfl rfl (by decide) rfl ?_; simp only [shutArgs, shutS, List.map_cons, List.map_nil, ir125, shut_in h0, List.head?_nil, reduceCtorEq, if_false, sExt, sHello, sAnswer, sEdit, sDeal, sBox, sDialed, sKnown]
  generalize hr : (⟨_, [], none⟩ : Ret) = r
  obtain ⟨ea, hea⟩ : ∃ y_, y_ = row fI (mI l k) := ⟨_, rfl⟩
  rw [← hea]
  intro add sub mul arith eq ne lt le gt ge neg conv mn mx not beq len at' ln bd cut app allS isNil mks set o hP F ho
  have la := F.len_at hea
  cbv
  refine loop_ind hP (σ := List Int × List Int × Int × Int) (fun s => [(0, R ea .sh), (1, I s.2.2.1), (4, I 0), (5, I s.2.2.2)])
    (fun s => At s.2.2.2 s.2.1.length ∧ AtK s.2.2.1 k s.2.1.length ∧ l = s.2.1 ++ s.1) (fun s => s.1.length) (l, [], k, 0) rfl ⟨rfl, AtK.zero, rfl⟩ ?_
  rintro ⟨suf, pre, x, i⟩ ⟨hi, hx, hl'⟩ ih
  simp only at hi hx hl' ih
  cbv
  cases suf with
  | nil =>
    rw [F.lt_f hi la (by rw [mI_len, hl']; simp)]; cbv
    rw [← hr, show x = t by rw [hx.same, hT.same, hl']; simp]
  | cons y suf =>
    have hl3 : pre.length + 1 ≤ l.length := by rw [hl']; simp
    have a1 : add .i64 x 1 = x + 1 := by rw [F.add, hx.inc hk (by omega)]
    have hm : mI l k = mI pre k ++ x :: mI suf (x + 1) := by rw [hl', mI_app pre _ k x hx]; rfl
    rw [F.lt_t hi la (by rw [mI_len, hl']; simp)]; cbv
    obtain ⟨ix, hix⟩ : ∃ y_, y_ = pre.length * 1 := ⟨_, rfl⟩
    rw [show at' 1 ea i = some (ix, [.int .i64 x]) by rw [hix]; have h := F.get (f := fI) (k := 1) (show At i (mI pre k).length by rw [mI_len]; exact hi) hea hm (fun _ => rfl) (by decide); rw [mI_len] at h; exact h]; cbv
    rw [F.ne_f rfl]; cbv
    rw [a1]
    refine ih (suf, pre ++ [y], x + 1, add .i64 i 1) ⟨at_len (F.inc hi (by omega)) (by simp), hx.one.eq (by simp), by simp [hl']⟩ (by simp)

/- laws.heldExtS -/
set_option maxHeartbeats 2000000 in
theorem ok236 (l : List Ext) (k : Int) (hk : Lim k (cExtS l)) (hl : l.length ≤ 1099511627776) (w0 : ∀ y ∈ l, y.body.length ≤ 1099511627776) {f0 : Fl} (h0 : inFl f0 = true) : fix Tb md 236 [R (row fExt (mExtS l k)) f0, I k] = some ⟨[I (k + (cExtS l : Int))], [], none⟩ := by
  obtain ⟨t, ht⟩ : ∃ y_, y_ = k + (cExtS l : Int) := ⟨_, rfl⟩
  have hT : AtK t k (cExtS l) := ht
  rw [← ht]
  clear ht
  refine fix_fn (fn := ir236) tb_236 rfl rfl (by decide) rfl ?_; simp only [shutArgs, shutS, List.map_cons, List.map_nil, ir236, shut_in h0, List.head?_nil, reduceCtorEq, if_false, sExt, sHello, sAnswer, sEdit, sDeal, sBox, sDialed, sKnown]
  generalize hr : (⟨_, [], none⟩ : Ret) = r
  obtain ⟨ea, hea⟩ : ∃ y_, y_ = row fExt (mExtS l k) := ⟨_, rfl⟩
  rw [← hea]
  intro add sub mul arith eq ne lt le gt ge neg conv mn mx not beq len at' ln bd cut app allS isNil mks set o hP F ho
  have la := F.len_at hea
  cbv
  refine loop_ind hP (σ := List Ext × List Ext × Int × Int) (fun s => [(0, R ea .sh), (1, I s.2.2.1), (4, I 0), (5, I s.2.2.2)])
    (fun s => At s.2.2.2 s.2.1.length ∧ AtK s.2.2.1 k (cExtS s.2.1) ∧ l = s.2.1 ++ s.1) (fun s => s.1.length) (l, [], k, 0) rfl ⟨rfl, AtK.zero, rfl⟩ ?_
  rintro ⟨suf, pre, z0, i⟩ ⟨hi, a0, hl'⟩ ih
  simp only at hi a0 hl' ih
  cbv
  cases suf with
  | nil =>
    rw [F.lt_f hi la (by rw [mExtS_len, hl']; simp)]; cbv
    rw [← hr, show z0 = t by rw [a0.same, hT.same, hl']; simp]
  | cons x suf =>
    have hl3 : pre.length + 1 ≤ l.length := by rw [hl']; simp
    have hc : cExtS l = cExtS pre + (cExt x + cExtS suf) := by rw [hl']; simp [cExtS]
    have hcx : cExt x = 1 + x.body.length := rfl
    obtain ⟨z1, hz1⟩ : ∃ y_, y_ = z0 + 1 := ⟨_, rfl⟩
    have a1 : AtK z1 k (cExtS pre + 1) := hz1 ▸ a0.one
    have s1 : add .i64 z0 1 = z1 := by rw [F.add, a0.inc hk (by omega), hz1]
    obtain ⟨z2, hz2⟩ : ∃ y_, y_ = z1 + (x.body.length : Int) := ⟨_, rfl⟩
    have a2 : AtK z2 k (cExtS pre + 1 + x.body.length) := hz2 ▸ a1.plus
    have m2 : Lim z1 x.body.length := a1.lim hk (by omega)
    have n2 : 0 ≤ z2 := by have := m2.nn; omega
    have hmx : mExt x z0 = (⟨z0, (mI x.body z1)⟩ : Ext) := by simp only [mExt, hz1, hz2]
    have hzn : z0 + (cExt x : Int) = z2 := by rw [hcx, a2.same, a0.same]; omega
    have hm : mExtS l k = mExtS pre k ++ (⟨z0, (mI x.body z1)⟩ : Ext) :: mExtS suf z2 := by rw [hl', mExtS_app pre _ k z0 a0, ← hmx, ← hzn]; rfl
    have y0 : x.body.length ≤ 1099511627776 := w0 x (by rw [hl']; simp)
    obtain ⟨g1, hg1⟩ : ∃ y_, y_ = row fI (mI x.body z1) := ⟨_, rfl⟩
    rw [F.lt_t hi la (by rw [mExtS_len, hl']; simp)]; cbv
    obtain ⟨ix, hix⟩ : ∃ y_, y_ = pre.length * 2 := ⟨_, rfl⟩
    have p0 : at' 2 ea i = some (ix, [.int .i64 z0, .row () g1]) := by simp only [hix, hg1]; have h := F.get (f := fExt) (k := 2) (show At i (mExtS pre k).length by rw [mExtS_len]; exact hi) hea hm (fun _ => rfl) (by decide); rw [mExtS_len] at h; exact h
    rw [p0]; cbv
    rw [F.ne_f rfl]; cbv
    rw [s1]
    rw [p0]; cbv
    have c1 : o 125 [R g1 (.sp 0 0), I z1] = some ⟨[I z2], [], none⟩ := by rw [ho, hg1, hz2]; exact ok125 _ _ m2 y0 rfl
    rw [c1]; cbv
    rw [show lt z2 0 = false by rw [F.lt]; simp; omega]; cbv
    refine ih (suf, pre ++ [x], z2, add .i64 i 1) ⟨at_len (F.inc hi (by omega)) (by simp), a2.eq (by simp [cExtS, cExt] <;> omega), by simp [hl']⟩ (by simp)

/- laws.heldHello -/
theorem ok82 (x : Hello) (k : Int) (hk : Lim k (nHello x)) (w : x.Mid) {f0 f1 : Fl} (q0 : inFl f0 = true) (q1 : inFl f1 = true) : fix Tb md 82 [sHello (row fI (wHello x k).versions) (row fExt (wHello x k).exts) f0 f1, I k] = some ⟨[I (k + (nHello x : Int))], [], none⟩ := by
  have hn : nHello x = x.versions.length + cExtS x.exts := rfl
  unfold Hello.Mid at w
  have a0 : AtK k k 0 := AtK.zero
  obtain ⟨z1, hz1⟩ : ∃ y_, y_ = k + (x.versions.length : Int) := ⟨_, rfl⟩
  have a1 : AtK z1 k (0 + x.versions.length) := hz1 ▸ a0.plus
  have m1 : Lim k (x.versions.length) := a0.lim hk (by omega)
  have n1 : 0 ≤ z1 := by have := m1.nn; omega
  obtain ⟨z2, hz2⟩ : ∃ y_, y_ = z1 + (cExtS x.exts : Int) := ⟨_, rfl⟩
  have a2 : AtK z2 k (0 + x.versions.length + cExtS x.exts) := hz2 ▸ a1.plus
  have m2 : Lim z1 (cExtS x.exts) := a1.lim hk (by omega)
  have n2 : 0 ≤ z2 := by have := m2.nn; omega
  rw [show k + (nHello x : Int) = z2 by rw [a2.same, hn]; simp]
  have x0 : (wHello x k).versions = mI x.versions k := by simp only [wHello, hz1, hz2]
  have x1 : (wHello x k).exts = mExtS x.exts z1 := by simp only [wHello, hz1, hz2]
  rw [x0, x1]
  refine fix_fn (fn := ir82) tb_82 rfl rfl (by decide) rfl ?_; simp only [shutArgs, shutS, List.map_cons, List.map_nil, ir82, shut_in q0, shut_in q1, List.head?_nil, reduceCtorEq, if_false, sExt, sHello, sAnswer, sEdit, sDeal, sBox, sDialed, sKnown]
  generalize hr : (⟨_, [], none⟩ : Ret) = r
  obtain ⟨g0, hg0⟩ : ∃ y_, y_ = row fI (mI x.versions k) := ⟨_, rfl⟩
  obtain ⟨g1, hg1⟩ : ∃ y_, y_ = row fExt (mExtS x.exts z1) := ⟨_, rfl⟩
  rw [← hg0, ← hg1]
  intro add sub mul arith eq ne lt le gt ge neg conv mn mx not beq len at' ln bd cut app allS isNil mks set o hP F ho
  have c1 : o 125 [R g0 (.sp 0 0), I k] = some ⟨[I z1], [], none⟩ := by rw [ho, hz1, hg0]; exact ok125 _ _ m1 (Nat.le_trans (w.1) (by decide)) rfl
  have c2 : o 236 [R g1 (.sp 0 0), I z1] = some ⟨[I z2], [], none⟩ := by rw [ho, hz2, hg1]; exact ok236 _ _ m2 (Nat.le_trans w.2.1 (by decide)) (fun y hy => Nat.le_trans ((w.2.2 y hy)) (by decide)) rfl
  cbv
  rw [c1]; cbv
  rw [show lt z1 0 = false by rw [F.lt]; simp; omega]; cbv
  rw [c2]; cbv
  rw [show lt z2 0 = false by rw [F.lt]; simp; omega]; cbv
  exact congrArg some hr

/- laws.FnExactReadHello -/
theorem law30 (b : List Int) (wb : b.length ≤ 9223372036854775807 ∧ ∀ y ∈ b, Int64 y) :
    fix Tb md 30 [R (row fI b) (.sp 0 0)] = some ⟨[B true], [], none⟩ := by
  generalize hr : (⟨_, [], none⟩ : Ret) = r
  obtain ⟨e1, he1⟩ : ∃ y_, y_ = row fI b := ⟨_, rfl⟩
  rw [← he1]
  obtain ⟨w, hw⟩ : ∃ y_, y_ = rdV b := ⟨_, rfl⟩
  obtain ⟨w1, hw1⟩ : ∃ y_, y_ = rdOk b := ⟨_, rfl⟩
  refine fix_fn2 (fn := ir30) tb_30 rfl rfl (by decide) rfl ?_; intro Q hQ; simp only [shutArgs, shutS, List.map_cons, List.map_nil, ir30, List.head?_nil, reduceCtorEq, if_false, sExt, sHello, sAnswer, sEdit, sDeal, sBox, sDialed, sKnown, shut_in (f := .sp 0 0) rfl]
  intro add sub mul arith eq ne lt le gt ge neg conv mn mx not beq len at' ln bd cut app allS isNil mks set o hP F ho
  have le1 := F.len_at he1
  cbv
  refine both (fun db => ?_) (fun db => ?_) <;> rw [db] <;> cbv
  · rw [hQ]; cbv; exact congrArg some hr
  have tb : b.length ≤ 1048576 := by unfold At at le1; simp only [F.gt, le1, decide_eq_false_iff_not] at db; omega
  have kb : o 76 [R e1 (.sp 0 0)] = some ⟨[R e1 (.ow false)], [], none⟩ := by rw [ho, he1]; exact ok76 b (show b.length ≤ 1099511627776 by omega) rfl 
  have qb : o 79 [R e1 (.sp 0 0), R e1 (.sp 1 0)] = some ⟨[B true], [], none⟩ := by rw [ho, he1]; exact ok79t b (show b.length ≤ 1099511627776 by omega) rfl  rfl 
  have wm : w.Mid := by rw [hw]; exact rdV_mid (by omega)
  obtain ⟨g0, hg0⟩ : ∃ y_, y_ = row fI w.versions := ⟨_, rfl⟩
  obtain ⟨h0, hh0⟩ : ∃ y_, y_ = row fI ((wHello w 1).versions) := ⟨_, rfl⟩
  obtain ⟨g1, hg1⟩ : ∃ y_, y_ = row fExt w.exts := ⟨_, rfl⟩
  obtain ⟨h1, hh1⟩ : ∃ y_, y_ = row fExt ((wHello w 1).exts) := ⟨_, rfl⟩
  obtain ⟨zz, hzz⟩ : ∃ y_, y_ = 1 + (nHello w : Int) := ⟨_, rfl⟩
  have lr : Lim 1 (nHello w) := Lim.of1 (by have := nHello_mid wm; omega)
  have l2 : lt zz 0 = false := by rw [F.lt, hzz]; simp; omega
  have l3 : ne zz zz = false := F.ne_f rfl
  have a0 : AtK 1 1 0 := AtK.zero
  have y0 := tb
  have lk : Lim 1 (0 + b.length) := Lim.of1 (by omega)
  obtain ⟨z1, hz1⟩ : ∃ y_, y_ = 1 + (b.length : Int) := ⟨_, rfl⟩
  have a1 : AtK z1 1 (0 + b.length) := hz1 ▸ a0.plus
  have v1m : Lim 1 (b.length) := a0.lim lk (by omega)
  obtain ⟨x0_0, hx0_0⟩ : ∃ y_, y_ = row fI (mI b 1) := ⟨_, rfl⟩
  have n1 : o 1080 [R e1 (.mp 0), I 1] = some ⟨[I z1], [.row () x0_0], none⟩ := by rw [ho, hz1, he1, hx0_0]; exact ok1080 _ _ v1m (by omega)
  have l1 : lt z1 0 = false := by rw [F.lt]; have := a1.same; simp; omega
  have hs : (fix Tb md 157 [R (row fI b) (.sp 0 0)] = some ⟨[sHello (row fI w.versions) (row fExt w.exts) (.ow false) (.ow false), B w1], [], none⟩) ∨ (w.versions = [] ∧ w.exts = [] ∧ fix Tb md 157 [R (row fI b) (.sp 0 0)] = some ⟨[sHello [] [] .nl .nl, B w1], [], none⟩) := by rw [hw, hw1]; exact ok157 b (by omega) rfl
  have hi : (fix Tb md 158 [R (row fI b) (.sp 0 0)] = some ⟨[sHello (row fI w.versions) (row fExt w.exts) (.ow false) (.ow false), B w1], [], none⟩) ∨ (w.versions = [] ∧ w.exts = [] ∧ fix Tb md 158 [R (row fI b) (.sp 0 0)] = some ⟨[sHello [] [] .nl .nl, B w1], [], none⟩) := by rw [hw, hw1]; exact ok158 b (by omega) rfl
  rcases hs with hs | ⟨ns0, ns1, hs⟩
  · rcases hi with hi | ⟨ni0, ni1, hi⟩
    · have m1 : o 157 [R e1 (.sp 0 0)] = some ⟨[sHello g0 g1 (.ow false) (.ow false), B w1], [], none⟩ := by rw [ho, he1]; simp only [hg0, hg1]; exact hs
      have m2 : o 158 [R e1 (.sp 0 0)] = some ⟨[sHello g0 g1 (.ow false) (.ow false), B w1], [], none⟩ := by rw [ho, he1]; simp only [hg0, hg1]; exact hi
      have r1 : o 78 [sHello g0 g1 (.sp 0 0) (.sp 0 1), sHello g0 g1 (.sp 1 0) (.sp 1 1)] = some ⟨[B true], [], none⟩ := by
        have h := ok78 w wm (f0 := (.sp 0 0)) (g0 := (.sp 1 0)) (f1 := (.sp 0 1)) (g1 := (.sp 1 1)) rfl rfl rfl rfl 
        rw [ho]
        try simp only [hg0, hg1]
        exact h
      have r2 : o 1081 [sHello g0 g1 (.mp 0) (.mp 1), I 1] = some ⟨[I zz], [.row () h0, .row () h1], none⟩ := by
        have h := ok1081 w 1 lr wm
        rw [ho, hzz]
        try simp only [hg0, hg1, hh0, hh1]
        exact h
      have r3 : o 82 [sHello h0 h1 (.sp 0 0) (.sp 0 1), I 1] = some ⟨[I zz], [], none⟩ := by
        have h := ok82 w 1 lr wm (f0 := (.sp 0 0)) (f1 := (.sp 0 1)) rfl rfl 
        rw [ho, hzz]
        try simp only [hh0, hh1]
        exact h
      try (rw [kb]; cbv)
      try (rw [m1]; cbv)
      try (rw [kb]; cbv)
      try (rw [m2]; cbv)
      try (rw [r1]; cbv)
      try (rw [show not true = false by rw [F.not]; rfl]; cbv)
      try (rw [show not (beq w1 w1) = false by rw [F.not, F.beq]; simp]; cbv)
      try (rw [kb]; cbv)
      try (rw [qb]; cbv)
      try (rw [show not true = false by rw [F.not]; rfl]; cbv)
      try (rw [n1]; cbv)
      try (rw [l1]; cbv)
      try (rw [r1]; cbv)
      try (rw [show not true = false by rw [F.not]; rfl]; cbv)
      try (rw [show not (beq w1 w1) = false by rw [F.not, F.beq]; simp]; cbv)
      try (rw [r2]; cbv)
      try (rw [r3]; cbv)
      try (rw [l2]; cbv)
      try (rw [l3]; cbv)
      try (rw [kb]; cbv)
      try (rw [m2]; cbv)
      try (rw [r1]; cbv)
      try (rw [show not true = false by rw [F.not]; rfl]; cbv)
      try (rw [show not (beq w1 w1) = false by rw [F.not, F.beq]; simp]; cbv)
      try (rw [r3]; cbv)
      try (rw [l2]; cbv)
      try (rw [l3]; cbv)
      repeat' (first | (rw [kb]; cbv) | (rw [qb]; cbv) | (rw [m1]; cbv) | (rw [m2]; cbv) | (rw [r1]; cbv) | (rw [n1]; cbv) | (rw [r2]; cbv) | (rw [r3]; cbv) | (rw [l1]; cbv) | (rw [l2]; cbv) | (rw [l3]; cbv) | (rw [F.ne_f rfl]; cbv) | (rw [show not (beq w1 w1) = false by rw [F.not, F.beq]; simp]; cbv) | (rw [show not true = false by rw [F.not]; rfl]; cbv) | (rw [hQ]; cbv; exact congrArg some hr))
    · have m1 : o 157 [R e1 (.sp 0 0)] = some ⟨[sHello g0 g1 (.ow false) (.ow false), B w1], [], none⟩ := by rw [ho, he1]; simp only [hg0, hg1]; exact hs
      have m2 : o 158 [R e1 (.sp 0 0)] = some ⟨[sHello [] [] .nl .nl, B w1], [], none⟩ := by rw [ho, he1]; exact hi
      have r1 : o 78 [sHello [] [] .nl .nl, sHello g0 g1 (.sp 1 0) (.sp 1 1)] = some ⟨[B true], [], none⟩ := by
        have h := ok78 w wm (f0 := .nl) (g0 := (.sp 1 0)) (f1 := .nl) (g1 := (.sp 1 1)) rfl rfl rfl rfl 
        try simp only [ni0, ni1] at h
        rw [ho]
        try simp only [hg0, hg1, ni0, ni1]
        exact h
      have r2 : o 1081 [sHello [] [] .nl .nl, I 1] = some ⟨[I zz], [], none⟩ := by
        have h := ok1081_nn w 1 lr wm ni0 ni1
        try simp only [wHello, mI, mExtS, ni0, ni1] at h
        rw [ho, hzz]
        try simp only [wHello, mI, mExtS, ni0, ni1]
        exact h
      have r3 : o 82 [sHello [] [] .nl .nl, I 1] = some ⟨[I zz], [], none⟩ := by
        have h := ok82 w 1 lr wm (f0 := .nl) (f1 := .nl) rfl rfl 
        try simp only [wHello, mI, mExtS, ni0, ni1] at h
        rw [ho, hzz]
        try simp only [wHello, mI, mExtS, ni0, ni1]
        exact h
      try (rw [kb]; cbv)
      try (rw [m1]; cbv)
      try (rw [kb]; cbv)
      try (rw [m2]; cbv)
      try (rw [r1]; cbv)
      try (rw [show not true = false by rw [F.not]; rfl]; cbv)
      try (rw [show not (beq w1 w1) = false by rw [F.not, F.beq]; simp]; cbv)
      try (rw [kb]; cbv)
      try (rw [qb]; cbv)
      try (rw [show not true = false by rw [F.not]; rfl]; cbv)
      try (rw [n1]; cbv)
      try (rw [l1]; cbv)
      try (rw [r1]; cbv)
      try (rw [show not true = false by rw [F.not]; rfl]; cbv)
      try (rw [show not (beq w1 w1) = false by rw [F.not, F.beq]; simp]; cbv)
      try (rw [r2]; cbv)
      try (rw [r3]; cbv)
      try (rw [l2]; cbv)
      try (rw [l3]; cbv)
      try (rw [kb]; cbv)
      try (rw [m2]; cbv)
      try (rw [r1]; cbv)
      try (rw [show not true = false by rw [F.not]; rfl]; cbv)
      try (rw [show not (beq w1 w1) = false by rw [F.not, F.beq]; simp]; cbv)
      try (rw [r3]; cbv)
      try (rw [l2]; cbv)
      try (rw [l3]; cbv)
      repeat' (first | (rw [kb]; cbv) | (rw [qb]; cbv) | (rw [m1]; cbv) | (rw [m2]; cbv) | (rw [r1]; cbv) | (rw [n1]; cbv) | (rw [r2]; cbv) | (rw [r3]; cbv) | (rw [l1]; cbv) | (rw [l2]; cbv) | (rw [l3]; cbv) | (rw [F.ne_f rfl]; cbv) | (rw [show not (beq w1 w1) = false by rw [F.not, F.beq]; simp]; cbv) | (rw [show not true = false by rw [F.not]; rfl]; cbv) | (rw [hQ]; cbv; exact congrArg some hr))
  · rcases hi with hi | ⟨ni0, ni1, hi⟩
    · have m1 : o 157 [R e1 (.sp 0 0)] = some ⟨[sHello [] [] .nl .nl, B w1], [], none⟩ := by rw [ho, he1]; exact hs
      have m2 : o 158 [R e1 (.sp 0 0)] = some ⟨[sHello g0 g1 (.ow false) (.ow false), B w1], [], none⟩ := by rw [ho, he1]; simp only [hg0, hg1]; exact hi
      have r1 : o 78 [sHello g0 g1 (.sp 0 0) (.sp 0 1), sHello [] [] .nl .nl] = some ⟨[B true], [], none⟩ := by
        have h := ok78 w wm (f0 := (.sp 0 0)) (g0 := .nl) (f1 := (.sp 0 1)) (g1 := .nl) rfl rfl rfl rfl 
        try simp only [ns0, ns1] at h
        rw [ho]
        try simp only [hg0, hg1, ns0, ns1]
        exact h
      have r2 : o 1081 [sHello g0 g1 (.mp 0) (.mp 1), I 1] = some ⟨[I zz], [.row () h0, .row () h1], none⟩ := by
        have h := ok1081 w 1 lr wm
        rw [ho, hzz]
        try simp only [hg0, hg1, hh0, hh1]
        exact h
      have r3 : o 82 [sHello h0 h1 (.sp 0 0) (.sp 0 1), I 1] = some ⟨[I zz], [], none⟩ := by
        have h := ok82 w 1 lr wm (f0 := (.sp 0 0)) (f1 := (.sp 0 1)) rfl rfl 
        rw [ho, hzz]
        try simp only [hh0, hh1]
        exact h
      try (rw [kb]; cbv)
      try (rw [m1]; cbv)
      try (rw [kb]; cbv)
      try (rw [m2]; cbv)
      try (rw [r1]; cbv)
      try (rw [show not true = false by rw [F.not]; rfl]; cbv)
      try (rw [show not (beq w1 w1) = false by rw [F.not, F.beq]; simp]; cbv)
      try (rw [kb]; cbv)
      try (rw [qb]; cbv)
      try (rw [show not true = false by rw [F.not]; rfl]; cbv)
      try (rw [n1]; cbv)
      try (rw [l1]; cbv)
      try (rw [r1]; cbv)
      try (rw [show not true = false by rw [F.not]; rfl]; cbv)
      try (rw [show not (beq w1 w1) = false by rw [F.not, F.beq]; simp]; cbv)
      try (rw [r2]; cbv)
      try (rw [r3]; cbv)
      try (rw [l2]; cbv)
      try (rw [l3]; cbv)
      try (rw [kb]; cbv)
      try (rw [m2]; cbv)
      try (rw [r1]; cbv)
      try (rw [show not true = false by rw [F.not]; rfl]; cbv)
      try (rw [show not (beq w1 w1) = false by rw [F.not, F.beq]; simp]; cbv)
      try (rw [r3]; cbv)
      try (rw [l2]; cbv)
      try (rw [l3]; cbv)
      repeat' (first | (rw [kb]; cbv) | (rw [qb]; cbv) | (rw [m1]; cbv) | (rw [m2]; cbv) | (rw [r1]; cbv) | (rw [n1]; cbv) | (rw [r2]; cbv) | (rw [r3]; cbv) | (rw [l1]; cbv) | (rw [l2]; cbv) | (rw [l3]; cbv) | (rw [F.ne_f rfl]; cbv) | (rw [show not (beq w1 w1) = false by rw [F.not, F.beq]; simp]; cbv) | (rw [show not true = false by rw [F.not]; rfl]; cbv) | (rw [hQ]; cbv; exact congrArg some hr))
    · have m1 : o 157 [R e1 (.sp 0 0)] = some ⟨[sHello [] [] .nl .nl, B w1], [], none⟩ := by rw [ho, he1]; exact hs
      have m2 : o 158 [R e1 (.sp 0 0)] = some ⟨[sHello [] [] .nl .nl, B w1], [], none⟩ := by rw [ho, he1]; exact hi
      have r1 : o 78 [sHello [] [] .nl .nl, sHello [] [] .nl .nl] = some ⟨[B true], [], none⟩ := by
        have h := ok78 w wm (f0 := .nl) (g0 := .nl) (f1 := .nl) (g1 := .nl) rfl rfl rfl rfl 
        try simp only [ni0, ni1] at h
        rw [ho]
        try simp only [hg0, hg1, ni0, ni1]
        exact h
      have r2 : o 1081 [sHello [] [] .nl .nl, I 1] = some ⟨[I zz], [], none⟩ := by
        have h := ok1081_nn w 1 lr wm ni0 ni1
        try simp only [wHello, mI, mExtS, ni0, ni1] at h
        rw [ho, hzz]
        try simp only [wHello, mI, mExtS, ni0, ni1]
        exact h
      have r3 : o 82 [sHello [] [] .nl .nl, I 1] = some ⟨[I zz], [], none⟩ := by
        have h := ok82 w 1 lr wm (f0 := .nl) (f1 := .nl) rfl rfl 
        try simp only [wHello, mI, mExtS, ni0, ni1] at h
        rw [ho, hzz]
        try simp only [wHello, mI, mExtS, ni0, ni1]
        exact h
      try (rw [kb]; cbv)
      try (rw [m1]; cbv)
      try (rw [kb]; cbv)
      try (rw [m2]; cbv)
      try (rw [r1]; cbv)
      try (rw [show not true = false by rw [F.not]; rfl]; cbv)
      try (rw [show not (beq w1 w1) = false by rw [F.not, F.beq]; simp]; cbv)
      try (rw [kb]; cbv)
      try (rw [qb]; cbv)
      try (rw [show not true = false by rw [F.not]; rfl]; cbv)
      try (rw [n1]; cbv)
      try (rw [l1]; cbv)
      try (rw [r1]; cbv)
      try (rw [show not true = false by rw [F.not]; rfl]; cbv)
      try (rw [show not (beq w1 w1) = false by rw [F.not, F.beq]; simp]; cbv)
      try (rw [r2]; cbv)
      try (rw [r3]; cbv)
      try (rw [l2]; cbv)
      try (rw [l3]; cbv)
      try (rw [kb]; cbv)
      try (rw [m2]; cbv)
      try (rw [r1]; cbv)
      try (rw [show not true = false by rw [F.not]; rfl]; cbv)
      try (rw [show not (beq w1 w1) = false by rw [F.not, F.beq]; simp]; cbv)
      try (rw [r3]; cbv)
      try (rw [l2]; cbv)
      try (rw [l3]; cbv)
      repeat' (first | (rw [kb]; cbv) | (rw [qb]; cbv) | (rw [m1]; cbv) | (rw [m2]; cbv) | (rw [r1]; cbv) | (rw [n1]; cbv) | (rw [r2]; cbv) | (rw [r3]; cbv) | (rw [l1]; cbv) | (rw [l2]; cbv) | (rw [l3]; cbv) | (rw [F.ne_f rfl]; cbv) | (rw [show not (beq w1 w1) = false by rw [F.not, F.beq]; simp]; cbv) | (rw [show not true = false by rw [F.not]; rfl]; cbv) | (rw [hQ]; cbv; exact congrArg some hr))
theorem ans30 : Answers Tb md 30 [(false, [.row [.int .i64]])] := answers_of (by
  intro vs h_
  obtain ⟨b, rfl, wb⟩ := fitL_R h_
  exact law30 b wb)

end Go.Vm
