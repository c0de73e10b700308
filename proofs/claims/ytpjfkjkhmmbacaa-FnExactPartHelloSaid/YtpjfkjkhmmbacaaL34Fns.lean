/- What the functions answer. -/
import Derived.Test.YtpjfkjkhmmbacaaL34Tab
set_option maxHeartbeats 4000000
set_option maxRecDepth 10000
set_option linter.unusedVariables false
set_option linter.unusedSimpArgs false
namespace Go.Vm

/-- a number so many places behind k -/
def AtK (x k : Int) (n : Nat) : Prop := x = k + (n : Int)
def Lim (k : Int) (n : Nat) : Prop := 0 ≤ k ∧ k + (n : Int) ≤ 4611686018427387904
theorem AtK.zero {k : Int} : AtK k k 0 := by unfold AtK; simp
theorem AtK.one {x k : Int} {n : Nat} (h : AtK x k n) : AtK (x + 1) k (n + 1) := by unfold AtK at *; omega
theorem AtK.plus {x k : Int} {n m : Nat} (h : AtK x k n) : AtK (x + (m : Int)) k (n + m) := by unfold AtK at *; omega
theorem AtK.eq {x k : Int} {n m : Nat} (h : AtK x k n) (e : n = m) : AtK x k m := e ▸ h
theorem AtK.same {x k : Int} {n : Nat} (h : AtK x k n) : x = k + (n : Int) := h
theorem AtK.lim {x k : Int} {n m q : Nat} (h : AtK x k n) (l : Lim k q) (e : n + m ≤ q) : Lim x m := by unfold AtK Lim at *; omega
theorem Lim.nn {k : Int} {n : Nat} (l : Lim k n) : 0 ≤ k := l.1
theorem AtK.inc {x k : Int} {n q : Nat} (h : AtK x k n) (l : Lim k q) (e : n ≤ q) : IntKind.wrap .i64 (x + 1) = x + 1 := by unfold AtK Lim at *; exact wrap64 (by omega) (by omega)
theorem Lim.le {k : Int} {n m : Nat} (l : Lim k n) (e : m ≤ n) : Lim k m := by unfold Lim at *; omega
theorem sum_le {α : Type} {c : α → Nat} {B : Nat} : ∀ {l : List α}, (∀ y ∈ l, c y ≤ B) → (l.map c).sum ≤ l.length * B
  | [], _ => by simp
  | x :: l, h => by
    have h1 := h x (by simp)
    have h2 := sum_le (l := l) (fun y hy => h y (by simp [hy]))
    simp only [List.map_cons, List.sum_cons, List.length_cons, Nat.succ_mul]
    omega
theorem Lim.of1 {n : Nat} (h : n ≤ 4611686018427387903) : Lim 1 n := ⟨by decide, by omega⟩
/-- numbers written into a row from k on -/
def mI : List Int → Int → List Int
  | [], _ => []
  | _ :: l, k => k :: mI l (k + 1)
theorem mI_len : ∀ (l : List Int) (k : Int), (mI l k).length = l.length
  | [], _ => rfl
  | _ :: l, k => by simp [mI, mI_len l (k + 1)]
theorem mI_app : ∀ (a b : List Int) (k x : Int), AtK x k a.length → mI (a ++ b) k = mI a k ++ mI b x
  | [], b, k, x, h => by simp [AtK] at h; subst h; simp [mI]
  | y :: a, b, k, x, h => by
    simp only [List.cons_append, mI]
    rw [mI_app a b (k + 1) x (by unfold AtK at *; simp at h; omega)]
theorem set_fld {α : Type} {pre suf : List α} {f : α → List V} {k : Nat} {x y : α} {j : Nat} {v : V} {ix : Nat} (hk : ∀ a, (f a).length = k) (hj : j < k) (hy : f y = (f x).set j v) (hix : ix = pre.length * k) : setFlat (row f (pre ++ x :: suf)) (ix + j) [v] = some (row f (pre ++ y :: suf)) := by
  have := set_raw (k := k) [v] j (row f pre) (f x) (row f suf) (by intro a ha; obtain ⟨b, _, rfl⟩ := List.mem_map.1 ha; exact hk b) (hk x) (by simp; omega)
  rw [row_len] at this
  subst hix
  rw [show row f (pre ++ x :: suf) = row f pre ++ f x :: row f suf by simp [row], this]
  have e : (f x).take j ++ [v] ++ (f x).drop (j + [v].length) = f y := by
    rw [hy, List.set_eq_take_append_cons_drop, if_pos (by rw [hk]; exact hj)]; simp
  rw [e]
  simp [row]

/- laws.markIntS -/
theorem ok1080 (l : List Int) (k : Int) (hk : Lim k l.length) (hl : l.length ≤ 1099511627776) : fix Tb md 1080 [R (row fI l) (.mp 0), I k] = some ⟨[I (k + (l.length : Int))], [.row () (row fI (mI l k))], none⟩ := by
  obtain ⟨t, ht⟩ : ∃ y_, y_ = k + (l.length : Int) := ⟨_, rfl⟩
  obtain ⟨et, het⟩ : ∃ y_, y_ = row fI (mI l k) := ⟨_, rfl⟩
  have hT : AtK t k l.length := ht
  rw [← ht, ← het]
  clear ht
  refine fix_fn (fn := ir1080) tb_1080 rfl rfl (by decide) rfl ?_
  generalize hr : (⟨_, [_], none⟩ : Ret) = r
  obtain ⟨ea, hea⟩ : ∃ y_, y_ = row fI l := ⟨_, rfl⟩
  rw [← hea]
  intro add sub mul arith eq ne lt le gt ge neg conv mn mx not beq len at' ln bd cut app allS isNil mks set o hP F ho
  have la := F.len_at hea
  cbv
  refine loop_ind hP (σ := List Int × List Int × List (List V) × Int × Int) (fun s => [(0, R s.2.2.1 (.mp 0)), (1, I s.2.2.2.1), (4, I 0), (5, I s.2.2.2.2)])
    (fun s => At s.2.2.2.2 s.2.1.length ∧ AtK s.2.2.2.1 k s.2.1.length ∧ l = s.2.1 ++ s.1 ∧ s.2.2.1 = row fI (mI s.2.1 k ++ s.1)) (fun s => s.1.length) (l, [], ea, k, 0) rfl ⟨rfl, AtK.zero, rfl, by simpa [mI] using hea⟩ ?_
  rintro ⟨suf, pre, eo, x, i⟩ ⟨hi, hx, hl', heo⟩ ih
  simp only at hi hx hl' heo ih
  have lo := F.len_at heo
  cbv
  cases suf with
  | nil =>
    rw [F.lt_f hi lo (by simp [mI_len])]; cbv
    rw [← hr, show x = t by rw [hx.same, hT.same, hl']; simp, heo, het, hl']; simp
  | cons y suf =>
    have hl3 : pre.length + 1 ≤ l.length := by rw [hl']; simp
    have a1 : add .i64 x 1 = x + 1 := by rw [F.add, hx.inc hk (by omega)]
    rw [F.lt_t hi lo (by simp [mI_len])]; cbv
    obtain ⟨ix, hix⟩ : ∃ y_, y_ = pre.length * 1 := ⟨_, rfl⟩
    rw [show at' 1 eo i = some (ix, [.int .i64 y]) by rw [hix]; have h := F.get (f := fI) (k := 1) (show At i (mI pre k).length by rw [mI_len]; exact hi) heo rfl (fun _ => rfl) (by decide); rw [mI_len] at h; exact h]; cbv
    obtain ⟨eo', heo'⟩ : ∃ y_, y_ = row fI (mI pre k ++ x :: suf) := ⟨_, rfl⟩
    rw [show set eo ix [.int .i64 x] = some eo' by rw [F.set, heo, hix, heo', ← mI_len pre k]; exact set_one (fun _ => rfl) rfl]; cbv
    rw [a1]
    refine ih (suf, pre ++ [y], eo', x + 1, add .i64 i 1) ⟨at_len (F.inc hi (by omega)) (by simp), hx.one.eq (by simp), by simp [hl'], ?_⟩ (by simp)
    simp only
    rw [heo', mI_app pre [y] k x hx]; simp [mI]
theorem ok1080n (k : Int) : fix Tb md 1080 [R [] .nl, I k] = some ⟨[I k], [], none⟩ := by
  refine fix_fn (fn := ir1080) tb_1080 rfl rfl (by decide) rfl ?_
  generalize hr : (⟨_, [], none⟩ : Ret) = r
  intro add sub mul arith eq ne lt le gt ge neg conv mn mx not beq len at' ln bd cut app allS isNil mks set o hP F ho
  have la : At (len []) 0 := F.len_at (f := fI) (l := []) rfl
  have h0 : lt 0 (len []) = false := F.lt_f at0 la (Nat.le_refl 0)
  cbv
  refine loop_ind hP (σ := Unit) (fun _ => [(0, R [] .nl), (1, I k), (4, I 0), (5, I 0)]) (fun _ => True) (fun _ => 0) () rfl trivial ?_
  rintro ⟨⟩ _ ih
  clear ih
  cbv
  rw [h0]; cbv
  exact congrArg some hr

def mExt (x : Ext) (k : Int) : Ext := ⟨k, mI x.body (k + 1)⟩
def cExt (x : Ext) : Nat := 1 + x.body.length
def mExtS : List Ext → Int → List Ext
  | [], _ => []
  | x :: l, k => mExt x k :: mExtS l (k + (cExt x : Int))
def cExtS (l : List Ext) : Nat := (l.map cExt).sum
theorem mExtS_len : ∀ (l : List Ext) (k : Int), (mExtS l k).length = l.length
  | [], _ => rfl
  | _ :: l, k => by simp [mExtS, mExtS_len l _]
theorem mExtS_app : ∀ (a b : List Ext) (k x : Int), AtK x k (cExtS a) → mExtS (a ++ b) k = mExtS a k ++ mExtS b x
  | [], b, k, x, h => by simp [AtK, cExtS] at h; subst h; simp [mExtS]
  | y :: a, b, k, x, h => by
    simp only [List.cons_append, mExtS]
    rw [mExtS_app a b (k + (cExt y : Int)) x (by unfold AtK at *; simp [cExtS] at h ⊢; omega)]
theorem cExt_mid {x : Ext} (w : x.Mid) : cExt x ≤ 2147483650 := by unfold Ext.Mid at w; unfold cExt; omega
theorem cExt_small {x : Ext} (w : x.Small) : cExt x ≤ 2097154 := by unfold Ext.Small at w; unfold cExt; omega
theorem cExtS_mid {l : List Ext} (w : l.length ≤ 1073741824 ∧ ∀ y ∈ l, y.Mid) : cExtS l ≤ 2305843011361177600 :=
  Nat.le_trans (sum_le fun y hy => cExt_mid (w.2 y hy)) (Nat.mul_le_mul_right _ w.1)
theorem cExtS_small {l : List Ext} (w : l.length ≤ 1048576 ∧ ∀ y ∈ l, y.Small) : cExtS l ≤ 2199025352704 :=
  Nat.le_trans (sum_le fun y hy => cExt_small (w.2 y hy)) (Nat.mul_le_mul_right _ w.1)

/- laws.markExtS -/
set_option maxHeartbeats 2000000 in
theorem ok1201 (l : List Ext) (k : Int) (hk : Lim k (cExtS l)) (hl : l.length ≤ 1099511627776) (w0 : ∀ y ∈ l, y.body.length ≤ 1099511627776) : fix Tb md 1201 [R (row fExt l) (.mp 0), I k] = some ⟨[I (k + (cExtS l : Int))], [.row () (row fExt (mExtS l k))], none⟩ := by
  obtain ⟨t, ht⟩ : ∃ y_, y_ = k + (cExtS l : Int) := ⟨_, rfl⟩
  obtain ⟨et, het⟩ : ∃ y_, y_ = row fExt (mExtS l k) := ⟨_, rfl⟩
  have hT : AtK t k (cExtS l) := ht
  rw [← ht, ← het]
  clear ht
  refine fix_fn (fn := ir1201) tb_1201 rfl rfl (by decide) rfl ?_
  generalize hr : (⟨_, [_], none⟩ : Ret) = r
  obtain ⟨ea, hea⟩ : ∃ y_, y_ = row fExt l := ⟨_, rfl⟩
  rw [← hea]
  intro add sub mul arith eq ne lt le gt ge neg conv mn mx not beq len at' ln bd cut app allS isNil mks set o hP F ho
  cbv
  refine loop_ind hP (σ := List Ext × List Ext × List (List V) × Int × Int) (fun s => [(0, R s.2.2.1 (.mp 0)), (1, I s.2.2.2.1), (4, I 0), (5, I s.2.2.2.2)])
    (fun s => At s.2.2.2.2 s.2.1.length ∧ AtK s.2.2.2.1 k (cExtS s.2.1) ∧ l = s.2.1 ++ s.1 ∧ s.2.2.1 = row fExt (mExtS s.2.1 k ++ s.1)) (fun s => s.1.length) (l, [], ea, k, 0) rfl ⟨rfl, AtK.zero, rfl, by simpa [mExtS] using hea⟩ ?_
  rintro ⟨suf, pre, eo, z0, i⟩ ⟨hi, a0, hl', heo⟩ ih
  simp only at hi a0 hl' heo ih
  have lo := F.len_at heo
  cbv
  cases suf with
  | nil =>
    rw [F.lt_f hi lo (by simp [mExtS_len])]; cbv
    rw [← hr, show z0 = t by rw [a0.same, hT.same, hl']; simp, heo, het, hl']; simp
  | cons x suf =>
    have hl3 : pre.length + 1 ≤ l.length := by rw [hl']; simp
    have hc : cExtS l = cExtS pre + (cExt x + cExtS suf) := by rw [hl']; simp [cExtS]
    have hcx : cExt x = 1 + x.body.length := rfl
    obtain ⟨z1, hz1⟩ : ∃ y_, y_ = z0 + 1 := ⟨_, rfl⟩
    have a1 : AtK z1 k (cExtS pre + 1) := hz1 ▸ a0.one
    have s1 : add .i64 z0 1 = z1 := by rw [F.add, a0.inc hk (by omega), hz1]
    obtain ⟨z2, hz2⟩ : ∃ y_, y_ = z1 + (x.body.length : Int) := ⟨_, rfl⟩
    have a2 : AtK z2 k (cExtS pre + 1 + x.body.length) := hz2 ▸ a1.plus
    have m2 : Lim z1 x.body.length := a1.lim hk (by omega)
    have n2 : 0 ≤ z2 := by have := m2.nn; omega
    have hmx : mExt x z0 = (⟨z0, (mI x.body z1)⟩ : Ext) := by simp only [mExt, hz1, hz2]
    have hzn : z0 + (cExt x : Int) = z2 := by rw [hcx, a2.same, a0.same]; omega
    have y0 : x.body.length ≤ 1099511627776 := w0 x (by rw [hl']; simp)
    obtain ⟨e1, he1⟩ : ∃ y_, y_ = row fI x.body := ⟨_, rfl⟩
    obtain ⟨g1, hg1⟩ : ∃ y_, y_ = row fI (mI x.body z1) := ⟨_, rfl⟩
    rw [F.lt_t hi lo (by simp [mExtS_len])]; cbv
    obtain ⟨ix, hix⟩ : ∃ y_, y_ = pre.length * 2 := ⟨_, rfl⟩
    obtain ⟨eo1, heo1⟩ : ∃ y_, y_ = row fExt (mExtS pre k ++ (⟨z0, x.body⟩ : Ext) :: suf) := ⟨_, rfl⟩
    obtain ⟨eo2, heo2⟩ : ∃ y_, y_ = row fExt (mExtS pre k ++ (⟨z0, (mI x.body z1)⟩ : Ext) :: suf) := ⟨_, rfl⟩
    rw [show at' 2 eo i = some (ix, [.int .i64 x.tag, .row () e1]) by simp only [hix, he1, hg1]; have h := F.get (f := fExt) (k := 2) (show At i (mExtS pre k).length by rw [mExtS_len]; exact hi) heo rfl (fun _ => rfl) (by decide); rw [mExtS_len] at h; exact h]; cbv
    have q0 : setFlat eo (ix + 0) [.int .i64 z0] = some eo1 := by simp only [heo, heo1, he1, hg1]; exact set_fld (k := 2) (fun _ => rfl) (by decide) (by simp [fExt]) (by rw [hix, mExtS_len])
    first | rw [show set eo (ix + 0) [.int .i64 z0] = some eo1 by rw [F.set]; exact q0] | rw [show set eo (Nat.add ix 0) [.int .i64 z0] = some eo1 by rw [F.set]; exact q0] | rw [show set eo ix [.int .i64 z0] = some eo1 by rw [F.set]; exact q0] | trace_state
    cbv
    rw [s1]
    rw [show at' 2 eo1 i = some (ix, [.int .i64 z0, .row () e1]) by simp only [hix, he1, hg1]; have h := F.get (f := fExt) (k := 2) (show At i (mExtS pre k).length by rw [mExtS_len]; exact hi) heo1 rfl (fun _ => rfl) (by decide); rw [mExtS_len] at h; exact h]; cbv
    have c1 : o 1080 [R e1 (.mp 0), I z1] = some ⟨[I z2], [.row () g1], none⟩ := by rw [ho, he1, hg1, hz2]; exact ok1080 _ _ m2 y0
    rw [c1]; cbv
    have q1 : setFlat eo1 (ix + 1) [.row () g1] = some eo2 := by simp only [heo1, heo2, he1, hg1]; exact set_fld (k := 2) (fun _ => rfl) (by decide) (by simp [fExt]) (by rw [hix, mExtS_len])
    first | rw [show set eo1 (ix + 1) [.row () g1] = some eo2 by rw [F.set]; exact q1] | rw [show set eo1 (Nat.add ix 1) [.row () g1] = some eo2 by rw [F.set]; exact q1] | rw [show set eo1 ix [.row () g1] = some eo2 by rw [F.set]; exact q1] | trace_state
    cbv
    refine ih (suf, pre ++ [x], eo2, z2, add .i64 i 1) ⟨at_len (F.inc hi (by omega)) (by simp), a2.eq (by simp [cExtS, cExt] <;> omega), by simp [hl'], ?_⟩ (by simp)
    simp only
    rw [heo2, mExtS_app pre [x] k z0 a0, ← hmx]; simp [mExtS]
theorem ok1201n (k : Int) : fix Tb md 1201 [R [] .nl, I k] = some ⟨[I k], [], none⟩ := by
  refine fix_fn (fn := ir1201) tb_1201 rfl rfl (by decide) rfl ?_
  generalize hr : (⟨_, [], none⟩ : Ret) = r
  intro add sub mul arith eq ne lt le gt ge neg conv mn mx not beq len at' ln bd cut app allS isNil mks set o hP F ho
  have la : At (len []) 0 := F.len_at (f := fExt) (l := []) rfl
  have h0 : lt 0 (len []) = false := F.lt_f at0 la (Nat.le_refl 0)
  cbv
  refine loop_ind hP (σ := Unit) (fun _ => [(0, R [] .nl), (1, I k), (4, I 0), (5, I 0)]) (fun _ => True) (fun _ => 0) () rfl trivial ?_
  rintro ⟨⟩ _ ih
  clear ih
  cbv
  rw [h0]; cbv
  exact congrArg some hr

def wHello (x : Hello) (k : Int) : Hello := ⟨mI x.versions k, mExtS x.exts (k + (x.versions.length : Int))⟩
def nHello (x : Hello) : Nat := x.versions.length + cExtS x.exts
theorem nHello_mid {x : Hello} (w : x.Mid) : nHello x ≤ 2305843016730000000 := by unfold Hello.Mid at w; have h0 := w.1; have h1 := cExtS_mid (show _ from w.2); unfold nHello; omega
theorem nHello_small {x : Hello} (w : x.Small) : nHello x ≤ 2199100000000 := by unfold Hello.Small at w; have h0 := w.1; have h1 := cExtS_small (show _ from w.2); unfold nHello; omega

/- laws.markHello -/
theorem ok1081 (x : Hello) (k : Int) (hk : Lim k (nHello x)) (w : x.Mid) : fix Tb md 1081 [sHello (row fI x.versions) (row fExt x.exts) (.mp 0) (.mp 1), I k] = some ⟨[I (k + (nHello x : Int))], [.row () (row fI (wHello x k).versions), .row () (row fExt (wHello x k).exts)], none⟩ := by
  have hn : nHello x = x.versions.length + cExtS x.exts := rfl
  unfold Hello.Mid at w
  have a0 : AtK k k 0 := AtK.zero
  obtain ⟨z1, hz1⟩ : ∃ y_, y_ = k + (x.versions.length : Int) := ⟨_, rfl⟩
  have a1 : AtK z1 k (0 + x.versions.length) := hz1 ▸ a0.plus
  have m1 : Lim k (x.versions.length) := a0.lim hk (by omega)
  have n1 : 0 ≤ z1 := by have := m1.nn; omega
  obtain ⟨z2, hz2⟩ : ∃ y_, y_ = z1 + (cExtS x.exts : Int) := ⟨_, rfl⟩
  have a2 : AtK z2 k (0 + x.versions.length + cExtS x.exts) := hz2 ▸ a1.plus
  have m2 : Lim z1 (cExtS x.exts) := a1.lim hk (by omega)
  have n2 : 0 ≤ z2 := by have := m2.nn; omega
  rw [show k + (nHello x : Int) = z2 by rw [a2.same, hn]; simp]
  have x0 : (wHello x k).versions = mI x.versions k := by simp only [wHello, hz1, hz2]
  have x1 : (wHello x k).exts = mExtS x.exts z1 := by simp only [wHello, hz1, hz2]
  rw [x0, x1]
  obtain ⟨g0, hg0⟩ : ∃ y_, y_ = row fI (mI x.versions k) := ⟨_, rfl⟩
  obtain ⟨e0, he0⟩ : ∃ y_, y_ = row fI x.versions := ⟨_, rfl⟩
  obtain ⟨g1, hg1⟩ : ∃ y_, y_ = row fExt (mExtS x.exts z1) := ⟨_, rfl⟩
  obtain ⟨e1, he1⟩ : ∃ y_, y_ = row fExt x.exts := ⟨_, rfl⟩
  rw [← hg0, ← he0, ← hg1, ← he1]
  refine fix_fn (fn := ir1081) tb_1081 rfl rfl (by decide) rfl ?_
  generalize hr : (⟨_, [_, _], none⟩ : Ret) = r
  intro add sub mul arith eq ne lt le gt ge neg conv mn mx not beq len at' ln bd cut app allS isNil mks set o hP F ho
  have c1 : o 1080 [R e0 (.mp 0), I k] = some ⟨[I z1], [.row () g0], none⟩ := by rw [ho, hz1, hg0, he0]; exact ok1080 _ _ m1 (Nat.le_trans (w.1) (by decide))
  have c2 : o 1201 [R e1 (.mp 0), I z1] = some ⟨[I z2], [.row () g1], none⟩ := by rw [ho, hz2, hg1, he1]; exact ok1201 _ _ m2 (Nat.le_trans w.2.1 (by decide)) (fun y hy => Nat.le_trans ((w.2.2 y hy)) (by decide))
  cbv
  rw [c1]; cbv
  rw [c2]; cbv
  exact congrArg some hr
theorem ok1081_on (x : Hello) (k : Int) (hk : Lim k (nHello x)) (w : x.Mid) (y1 : x.exts = []) : fix Tb md 1081 [sHello (row fI x.versions) (row fExt x.exts) (.mp 0) .nl, I k] = some ⟨[I (k + (nHello x : Int))], [.row () (row fI (wHello x k).versions)], none⟩ := by
  have hn : nHello x = x.versions.length + cExtS x.exts := rfl
  unfold Hello.Mid at w
  have a0 : AtK k k 0 := AtK.zero
  obtain ⟨z1, hz1⟩ : ∃ y_, y_ = k + (x.versions.length : Int) := ⟨_, rfl⟩
  have a1 : AtK z1 k (0 + x.versions.length) := hz1 ▸ a0.plus
  have m1 : Lim k (x.versions.length) := a0.lim hk (by omega)
  have n1 : 0 ≤ z1 := by have := m1.nn; omega
  obtain ⟨z2, hz2⟩ : ∃ y_, y_ = z1 + (cExtS x.exts : Int) := ⟨_, rfl⟩
  have a2 : AtK z2 k (0 + x.versions.length + cExtS x.exts) := hz2 ▸ a1.plus
  have m2 : Lim z1 (cExtS x.exts) := a1.lim hk (by omega)
  have n2 : 0 ≤ z2 := by have := m2.nn; omega
  rw [show k + (nHello x : Int) = z2 by rw [a2.same, hn]; simp]
  have x0 : (wHello x k).versions = mI x.versions k := by simp only [wHello, hz1, hz2]
  have x1 : (wHello x k).exts = mExtS x.exts z1 := by simp only [wHello, hz1, hz2]
  rw [x0]
  obtain ⟨g0, hg0⟩ : ∃ y_, y_ = row fI (mI x.versions k) := ⟨_, rfl⟩
  obtain ⟨e0, he0⟩ : ∃ y_, y_ = row fI x.versions := ⟨_, rfl⟩
  have e1 : row fExt x.exts = [] := by rw [y1]; rfl
  rw [← hg0, ← he0, e1]
  refine fix_fn (fn := ir1081) tb_1081 rfl rfl (by decide) rfl ?_
  generalize hr : (⟨_, [_], none⟩ : Ret) = r
  intro add sub mul arith eq ne lt le gt ge neg conv mn mx not beq len at' ln bd cut app allS isNil mks set o hP F ho
  have c1 : o 1080 [R e0 (.mp 0), I k] = some ⟨[I z1], [.row () g0], none⟩ := by rw [ho, hz1, hg0, he0]; exact ok1080 _ _ m1 (Nat.le_trans (w.1) (by decide))
  have c2 : o 1201 [R [] .nl, I z1] = some ⟨[I z2], [], none⟩ := by rw [ho, show z2 = z1 by rw [hz2, y1]; simp [cExtS]]; exact ok1201n _
  cbv
  rw [c1]; cbv
  rw [c2]; cbv
  exact congrArg some hr
theorem ok1081_no (x : Hello) (k : Int) (hk : Lim k (nHello x)) (w : x.Mid) (y0 : x.versions = []) : fix Tb md 1081 [sHello (row fI x.versions) (row fExt x.exts) .nl (.mp 0), I k] = some ⟨[I (k + (nHello x : Int))], [.row () (row fExt (wHello x k).exts)], none⟩ := by
  have hn : nHello x = x.versions.length + cExtS x.exts := rfl
  unfold Hello.Mid at w
  have a0 : AtK k k 0 := AtK.zero
  obtain ⟨z1, hz1⟩ : ∃ y_, y_ = k + (x.versions.length : Int) := ⟨_, rfl⟩
  have a1 : AtK z1 k (0 + x.versions.length) := hz1 ▸ a0.plus
  have m1 : Lim k (x.versions.length) := a0.lim hk (by omega)
  have n1 : 0 ≤ z1 := by have := m1.nn; omega
  obtain ⟨z2, hz2⟩ : ∃ y_, y_ = z1 + (cExtS x.exts : Int) := ⟨_, rfl⟩
  have a2 : AtK z2 k (0 + x.versions.length + cExtS x.exts) := hz2 ▸ a1.plus
  have m2 : Lim z1 (cExtS x.exts) := a1.lim hk (by omega)
  have n2 : 0 ≤ z2 := by have := m2.nn; omega
  rw [show k + (nHello x : Int) = z2 by rw [a2.same, hn]; simp]
  have x0 : (wHello x k).versions = mI x.versions k := by simp only [wHello, hz1, hz2]
  have x1 : (wHello x k).exts = mExtS x.exts z1 := by simp only [wHello, hz1, hz2]
  rw [x1]
  have e0 : row fI x.versions = [] := by rw [y0]; rfl
  obtain ⟨g1, hg1⟩ : ∃ y_, y_ = row fExt (mExtS x.exts z1) := ⟨_, rfl⟩
  obtain ⟨e1, he1⟩ : ∃ y_, y_ = row fExt x.exts := ⟨_, rfl⟩
  rw [e0, ← hg1, ← he1]
  refine fix_fn (fn := ir1081) tb_1081 rfl rfl (by decide) rfl ?_
  generalize hr : (⟨_, [_], none⟩ : Ret) = r
  intro add sub mul arith eq ne lt le gt ge neg conv mn mx not beq len at' ln bd cut app allS isNil mks set o hP F ho
  have c1 : o 1080 [R [] .nl, I k] = some ⟨[I z1], [], none⟩ := by rw [ho, show z1 = k by rw [hz1, y0]; simp]; exact ok1080n _
  have c2 : o 1201 [R e1 (.mp 0), I z1] = some ⟨[I z2], [.row () g1], none⟩ := by rw [ho, hz2, hg1, he1]; exact ok1201 _ _ m2 (Nat.le_trans w.2.1 (by decide)) (fun y hy => Nat.le_trans ((w.2.2 y hy)) (by decide))
  cbv
  rw [c1]; cbv
  rw [c2]; cbv
  exact congrArg some hr
theorem ok1081_nn (x : Hello) (k : Int) (hk : Lim k (nHello x)) (w : x.Mid) (y0 : x.versions = []) (y1 : x.exts = []) : fix Tb md 1081 [sHello (row fI x.versions) (row fExt x.exts) .nl .nl, I k] = some ⟨[I (k + (nHello x : Int))], [], none⟩ := by
  have hn : nHello x = x.versions.length + cExtS x.exts := rfl
  unfold Hello.Mid at w
  have a0 : AtK k k 0 := AtK.zero
  obtain ⟨z1, hz1⟩ : ∃ y_, y_ = k + (x.versions.length : Int) := ⟨_, rfl⟩
  have a1 : AtK z1 k (0 + x.versions.length) := hz1 ▸ a0.plus
  have m1 : Lim k (x.versions.length) := a0.lim hk (by omega)
  have n1 : 0 ≤ z1 := by have := m1.nn; omega
  obtain ⟨z2, hz2⟩ : ∃ y_, y_ = z1 + (cExtS x.exts : Int) := ⟨_, rfl⟩
  have a2 : AtK z2 k (0 + x.versions.length + cExtS x.exts) := hz2 ▸ a1.plus
  have m2 : Lim z1 (cExtS x.exts) := a1.lim hk (by omega)
  have n2 : 0 ≤ z2 := by have := m2.nn; omega
  rw [show k + (nHello x : Int) = z2 by rw [a2.same, hn]; simp]
  have x0 : (wHello x k).versions = mI x.versions k := by simp only [wHello, hz1, hz2]
  have x1 : (wHello x k).exts = mExtS x.exts z1 := by simp only [wHello, hz1, hz2]
  have e0 : row fI x.versions = [] := by rw [y0]; rfl
  have e1 : row fExt x.exts = [] := by rw [y1]; rfl
  rw [e0, e1]
  refine fix_fn (fn := ir1081) tb_1081 rfl rfl (by decide) rfl ?_
  generalize hr : (⟨_, [], none⟩ : Ret) = r
  intro add sub mul arith eq ne lt le gt ge neg conv mn mx not beq len at' ln bd cut app allS isNil mks set o hP F ho
  have c1 : o 1080 [R [] .nl, I k] = some ⟨[I z1], [], none⟩ := by rw [ho, show z1 = k by rw [hz1, y0]; simp]; exact ok1080n _
  have c2 : o 1201 [R [] .nl, I z1] = some ⟨[I z2], [], none⟩ := by rw [ho, show z2 = z1 by rw [hz2, y1]; simp [cExtS]]; exact ok1201n _
  cbv
  rw [c1]; cbv
  rw [c2]; cbv
  exact congrArg some hr

/- spec.l1In -/
theorem ok230 (n lo hi : Int) : fix Tb md 230 [I n, I lo, I hi] = some ⟨[B (inR n lo hi)], [], none⟩ := by
  refine fix_fn (fn := ir230) tb_230 rfl rfl (by decide) rfl ?_; simp only [shutArgs, shutS, List.map_cons, List.map_nil, ir230, List.head?_nil, reduceCtorEq, if_false, sExt, sHello, sAnswer, sEdit, sDeal, sBox, sDialed, sKnown]
  generalize hr : (⟨_, [], none⟩ : Ret) = r
  intro add sub mul arith eq ne lt le gt ge neg conv mn mx not beq len at' ln bd cut app allS isNil mks set o hP F ho
  cbv
  repeat' (refine both (fun c => ?_) (fun c => ?_) <;> (try rw [c]) <;> (try cbv))
  all_goals (simp only [F.le, F.ge, F.lt, F.gt] at *; subst hr; (try simp_all [inR]) <;> (try omega))

/- spec.AreVersions -/
def verGo : List Int → List Int → Bool
  | _, [] => true
  | pre, x :: suf => inR x 1 9 && (match pre.getLast? with | none => true | some y => !decide (x ≤ y)) && verGo (pre ++ [x]) suf
def areVer (l : List Int) : Bool := verGo [] l && decide (0 < l.length)
theorem ok257 (l : List Int) (hl : l.length ≤ 1099511627776) {f0 : Fl} (h0 : inFl f0 = true) : fix Tb md 257 [R (row fI l) f0] = some ⟨[B (areVer l)], [], none⟩ := by
  obtain ⟨T, hT⟩ : ∃ y_, y_ = verGo [] l := ⟨_, rfl⟩
  rw [show areVer l = (T && decide (0 < l.length)) by rw [hT]; rfl]
  generalize hr : (⟨_, [], none⟩ : Ret) = r
  obtain ⟨ea, hea⟩ : ∃ y_, y_ = row fI l := ⟨_, rfl⟩
  rw [← hea]
  refine fix_fn2 (fn := ir257) tb_257 rfl rfl (by decide) rfl ?_; intro Q hQ; simp only [shutArgs, shutS, List.map_cons, List.map_nil, ir257, shut_in h0, List.head?_nil, reduceCtorEq, if_false, sExt, sHello, sAnswer, sEdit, sDeal, sBox, sDialed, sKnown]
  intro add sub mul arith eq ne lt le gt ge neg conv mn mx not beq len at' ln bd cut app allS isNil mks set o hP F ho
  have la := F.len_at hea
  have h6 : gt (len ea) 0 = decide (0 < l.length) := F.gt_n la rfl
  cbv
  refine loop_ind2 hP (σ := List Int × List Int × Int) (fun s => [(0, R ea .sh), (2, B false), (3, I s.2.2)]) (fun s => At s.2.2 s.2.1.length ∧ l = s.2.1 ++ s.1 ∧ verGo s.2.1 s.1 = T) (fun s => s.1.length) (l, [], 0) rfl ⟨rfl, rfl, hT.symm⟩ ?_
  intro c1 Q1 hc1 hQ1
  rintro ⟨suf, pre, i⟩ ⟨hi, hl', hb⟩ ih
  simp only at hi hl' hb ih
  cbv
  cases suf with
  | nil =>
    rw [F.lt_f hi la (by simp [hl'])]; cbv
    rw [hQ1]; cbv
    rw [hQ]; cbv
    rw [h6, ← hr, ← hb]; rfl
  | cons x suf =>
    obtain ⟨ix, hix⟩ : ∃ y_, y_ = pre.length * 1 := ⟨_, rfl⟩
    have hpre : pre.length ≤ 1099511627776 := by rw [hl'] at hl; simp at hl; omega
    have p0 : at' 1 ea i = some (ix, [.int .i64 x]) := by rw [hix]; exact F.get hi hea hl' (fun _ => rfl) (by decide)
    obtain ⟨b1, hb1⟩ : ∃ y_, y_ = inR x 1 9 := ⟨_, rfl⟩
    have c1 : o 230 [I x, I 1, I 9] = some ⟨[B b1], [], none⟩ := by rw [ho, hb1]; exact ok230 ..
    have hv0 : verGo pre (x :: suf) = (b1 && (match pre.getLast? with | none => true | some y => !decide (x ≤ y)) && verGo (pre ++ [x]) suf) := by rw [hb1]; rfl
    rw [hv0] at hb
    have hi' : At (add .i64 i 1) (pre ++ [x]).length := at_len (F.inc hi (by omega)) (by simp)
    have hl2 : l = (pre ++ [x]) ++ suf := by rw [hl']; simp
    have hg0 : gt i 0 = decide (0 < pre.length) := F.gt_n hi rfl
    rw [F.lt_t hi la (by simp [hl'])]; cbv
    rw [p0]; cbv
    rw [c1]; cbv
    refine both (fun d1 => ?_) (fun d1 => ?_) <;> rw [d1] <;> cbv
    · rw [hQ1]; cbv
      rw [hQ]; cbv
      rw [← hr, show T = false by rw [← hb, F.not_t d1]; rfl]; rfl
    rw [F.not_f d1, Bool.true_and] at hb
    rcases List.eq_nil_or_concat pre with hp | ⟨p', y, hp⟩
    · rw [show gt i 0 = false by rw [hg0, hp]; rfl]; cbv
      refine ih (suf, pre ++ [x], add .i64 i 1) ⟨hi', hl2, ?_⟩ (by simp)
      simp only
      rw [← hb, hp]; rfl
    · rw [show gt i 0 = true by rw [hg0, hp]; simp]; cbv
      obtain ⟨iy, hiy⟩ : ∃ y_, y_ = p'.length * 1 := ⟨_, rfl⟩
      have hi2 : At (sub .i64 i 1) p'.length := by unfold At at hi ⊢; rw [hp] at hi; simp at hi; rw [F.sub, hi, wrap64 (by omega) (by rw [hp] at hpre; simp at hpre; omega)]; omega
      rw [show at' 1 ea (sub .i64 i 1) = some (iy, [.int .i64 y]) by rw [hiy]; exact F.get hi2 hea (show l = p' ++ y :: (x :: suf) by rw [hl', hp]; simp) (fun _ => rfl) (by decide)]; cbv
      rw [p0]; cbv
      obtain ⟨u, hu⟩ : ∃ y_, y_ = decide (x ≤ y) := ⟨_, rfl⟩
      rw [show ge y x = u by rw [F.ge, hu]]; cbv
      have hgl : pre.getLast? = some y := by rw [hp]; simp
      rw [hgl] at hb
      simp only at hb
      rw [← hu] at hb
      refine both (fun d3 => ?_) (fun d3 => ?_) <;> rw [d3] <;> cbv
      · rw [hQ1]; cbv
        rw [hQ]; cbv
        rw [← hr, show T = false by rw [← hb, d3]; rfl]; rfl
      · refine ih (suf, pre ++ [x], add .i64 i 1) ⟨hi', hl2, ?_⟩ (by simp)
        rw [← hb, d3]; simp

/- spec.l9Byte -/
theorem ok231 (l : List Int) (hl : l.length ≤ 1099511627776) {f0 : Fl} (h0 : inFl f0 = true) : fix Tb md 231 [R (row fI l) f0] = some ⟨[B (bytes l)], [], none⟩ := by
  refine fix_fn (fn := ir231) tb_231 rfl rfl (by decide) rfl ?_; simp only [shutArgs, shutS, List.map_cons, List.map_nil, ir231, shut_in h0, List.head?_nil, reduceCtorEq, if_false, sExt, sHello, sAnswer, sEdit, sDeal, sBox, sDialed, sKnown]
  generalize hr : (⟨_, [], none⟩ : Ret) = r
  obtain ⟨ea, hea⟩ : ∃ y_, y_ = row fI l := ⟨_, rfl⟩
  rw [← hea]
  intro add sub mul arith eq ne lt le gt ge neg conv mn mx not beq len at' ln bd cut app allS isNil mks set o hP F ho
  have la := F.len_at hea
  cbv
  refine loop_ind hP (σ := List Int × List Int × Int) (fun s => [(0, R ea .sh), (2, B false), (3, I s.2.2)]) (fun s => At s.2.2 s.1.length ∧ l = s.1 ++ s.2.1 ∧ bytes s.1 = true) (fun s => s.2.1.length) ([], l, 0) rfl ⟨rfl, rfl, rfl⟩ ?_
  rintro ⟨pre, suf, i⟩ ⟨hi, hl', hb⟩ ih
  simp only at hi hl' hb ih
  cbv
  cases suf with
  | nil =>
    rw [F.lt_f hi la (by simp [hl'])]; cbv
    rw [← hr, hl']; simp [hb]
  | cons x suf =>
    rw [F.lt_t hi la (by simp [hl'])]; cbv
    obtain ⟨ix, hix⟩ : ∃ y_, y_ = pre.length * 1 := ⟨_, rfl⟩
    rw [show at' 1 ea i = some (ix, [.int .i64 x]) by rw [hix]; exact F.get hi hea hl' (fun _ => rfl) (by decide)]; cbv
    obtain ⟨v, hv⟩ : ∃ y_, y_ = inR x 0 255 := ⟨_, rfl⟩
    rw [show o 230 [I x, I 0, I 255] = some ⟨[B v], [], none⟩ by rw [ho, hv]; exact ok230 x 0 255]; cbv
    refine both (fun c => ?_) (fun c => ?_) <;> rw [c] <;> cbv
    · rw [← hr, hl']
      rw [F.not] at c
      simp [bytes] at *
      simp_all
    · rw [F.not] at c
      simp at c
      refine ih (pre ++ [x], suf, add .i64 i 1) ⟨at_len (F.inc hi (by simp [hl'] at hl; omega)) (by simp), by simp [hl'], ?_⟩ (by simp)
      simp [bytes] at *
      simp_all

def ixOf {α : Type} (p : α → Bool) : List α → Int → Int
  | [], _ => -1
  | x :: l, i => if p x = true then i else ixOf p l (i + 1)
theorem ixOf_ge {α : Type} (p : α → Bool) : ∀ (l : List α) (i : Int), 0 ≤ i → decide (0 ≤ ixOf p l i) = l.any p
  | [], i, h => by simp [ixOf]
  | x :: l, i, h => by
    unfold ixOf
    rw [List.any_cons]
    by_cases hx : p x = true
    · rw [if_pos hx, hx]; simpa using h
    · rw [if_neg hx, ixOf_ge p l (i + 1) (by omega)]; simp at hx; simp [hx]
theorem ixOf_none {α : Type} {p : α → Bool} : ∀ {l : List α} {i : Int}, l.any p = false → ixOf p l i = -1
  | [], i, _ => rfl
  | x :: l, i, h => by
    rw [List.any_cons, Bool.or_eq_false_iff] at h
    unfold ixOf
    rw [if_neg (by rw [h.1]; decide), ixOf_none h.2]

/- spec.ExtOf -/
def tagP (t : Int) (e : Ext) : Bool := decide (e.tag = t)
def extOf (l : List Ext) (t : Int) : Int := ixOf (tagP t) l 0
theorem ixOf_pre {α : Type} {p : α → Bool} : ∀ {pre : List α} {x : α} {suf : List α} {i : Int}, p x = true → (pre.any p = false → ixOf p (pre ++ x :: suf) i = i + (pre.length : Int)) ∧ (pre.any p = true → ixOf p (pre ++ x :: suf) i < i + (pre.length : Int))
  | [], x, suf, i, hx => by simp [ixOf, hx]
  | y :: pre, x, suf, i, hx => by
    obtain ⟨h1, h2⟩ := ixOf_pre (pre := pre) (suf := suf) (i := i + 1) hx
    rw [List.cons_append, List.any_cons]
    unfold ixOf
    by_cases hy : p y = true
    · rw [if_pos hy, hy]; simp; omega
    · rw [if_neg hy]; simp at hy; rw [hy, Bool.false_or]
      constructor
      · intro q; rw [h1 q]; simp; omega
      · intro q; have := h2 q; simp; omega
theorem ixOf_lt {α : Type} {p : α → Bool} {pre : List α} {x : α} {suf : List α} {i : Int} (hx : p x = true) (hi : At i pre.length) : decide (ixOf p (pre ++ x :: suf) 0 < i) = pre.any p := by
  unfold At at hi
  obtain ⟨h1, h2⟩ := ixOf_pre (pre := pre) (suf := suf) (i := 0) hx
  cases h : pre.any p with
  | false => rw [h1 h, hi]; simp
  | true => have := h2 h; rw [hi]; simp; omega
theorem ok286 (l : List Ext) (t : Int) (hl : l.length ≤ 1099511627776) {f0 : Fl} (h0 : inFl f0 = true) : fix Tb md 286 [R (row fExt l) f0, I t] = some ⟨[I (extOf l t)], [], none⟩ := by
  obtain ⟨T, hT⟩ : ∃ y_, y_ = extOf l t := ⟨_, rfl⟩
  rw [← hT]
  generalize hr : (⟨_, [], none⟩ : Ret) = r
  obtain ⟨ea, hea⟩ : ∃ y_, y_ = row fExt l := ⟨_, rfl⟩
  rw [← hea]
  refine fix_fn2 (fn := ir286) tb_286 rfl rfl (by decide) rfl ?_; intro Q hQ; simp only [shutArgs, shutS, List.map_cons, List.map_nil, ir286, shut_in h0, List.head?_nil, reduceCtorEq, if_false, sExt, sHello, sAnswer, sEdit, sDeal, sBox, sDialed, sKnown]
  intro add sub mul arith eq ne lt le gt ge neg conv mn mx not beq len at' ln bd cut app allS isNil mks set o hP F ho
  have la := F.len_at hea
  cbv
  refine loop_ind2 hP (σ := List Ext × List Ext × Int) (fun s => [(0, R ea .sh), (1, I t), (4, I 0), (5, I s.2.2)]) (fun s => At s.2.2 s.2.1.length ∧ l = s.2.1 ++ s.1 ∧ (s.2.1.any (tagP t)) = false) (fun s => s.1.length) (l, [], 0) rfl ⟨rfl, rfl, rfl⟩ ?_
  intro c1 Q1 hc1 hQ1
  rintro ⟨suf, pre, i⟩ ⟨hi, hl', hb⟩ ih
  simp only at hi hl' hb ih
  cbv
  cases suf with
  | nil =>
    rw [F.lt_f hi la (by simp [hl'])]; cbv
    rw [hQ1]; cbv
    rw [hQ]; cbv
    rw [← hr, hT, show extOf l t = -1 from ixOf_none (by rw [hl', List.append_nil]; exact hb)]
  | cons x suf =>
    obtain ⟨v, hv⟩ : ∃ y_, y_ = tagP t x := ⟨_, rfl⟩
    have hT' : v = true → T = i := fun q => by
      rw [hT, hl']; unfold At at hi
      rw [show extOf (pre ++ x :: suf) t = 0 + (pre.length : Int) from (ixOf_pre (hv ▸ q)).1 hb, hi]; simp
    rw [F.lt_t hi la (by simp [hl'])]; cbv
    obtain ⟨ix, hix⟩ : ∃ y_, y_ = pre.length * 2 := ⟨_, rfl⟩
    obtain ⟨e1, he1⟩ : ∃ y_, y_ = row fI x.body := ⟨_, rfl⟩
    rw [show at' 2 ea i = some (ix, [.int .i64 x.tag, .row () e1]) by rw [hix, he1]; exact F.get hi hea hl' (fun _ => rfl) (by decide)]; cbv
    rw [show eq x.tag t = v by rw [F.eq, hv]; rfl]; cbv
    refine both (fun d => ?_) (fun d => ?_) <;> rw [d] <;> cbv
    · rw [hQ1]; cbv
      rw [hQ]; cbv
      rw [← hr, hT' d]
    · refine ih (suf, pre ++ [x], add .i64 i 1) ⟨at_len (F.inc hi (by simp [hl'] at hl; omega)) (by simp), by simp [hl'], ?_⟩ (by simp)
      simp only
      rw [List.any_append, hb, List.any_cons, ← hv, d]; rfl

/- spec.AreExts -/
def exOk : List Ext → List Ext → Bool
  | _, [] => true
  | pre, x :: suf => inR x.tag 0 255 && !decide (4 < x.body.length) && bytes x.body && !(pre.any (tagP x.tag)) && exOk (pre ++ [x]) suf
def areEx (l : List Ext) : Bool := exOk [] l && decide (l.length ≤ 6)
theorem ok271 (l : List Ext) (hl : l.length ≤ 1099511627776) (w : ∀ y ∈ l, y.body.length ≤ 1099511627776) {f0 : Fl} (h0 : inFl f0 = true) : fix Tb md 271 [R (row fExt l) f0] = some ⟨[B (areEx l)], [], none⟩ := by
  obtain ⟨T, hT⟩ : ∃ y_, y_ = exOk [] l := ⟨_, rfl⟩
  rw [show areEx l = (T && decide (l.length ≤ 6)) by rw [hT]; rfl]
  generalize hr : (⟨_, [], none⟩ : Ret) = r
  obtain ⟨ea, hea⟩ : ∃ y_, y_ = row fExt l := ⟨_, rfl⟩
  rw [← hea]
  refine fix_fn2 (fn := ir271) tb_271 rfl rfl (by decide) rfl ?_; intro Q hQ; simp only [shutArgs, shutS, List.map_cons, List.map_nil, ir271, shut_in h0, List.head?_nil, reduceCtorEq, if_false, sExt, sHello, sAnswer, sEdit, sDeal, sBox, sDialed, sKnown]
  intro add sub mul arith eq ne lt le gt ge neg conv mn mx not beq len at' ln bd cut app allS isNil mks set o hP F ho
  have la := F.len_at hea
  have h6 : le (len ea) 6 = decide (l.length ≤ 6) := F.le_n la rfl
  cbv
  refine loop_ind2 hP (σ := List Ext × List Ext × Int) (fun s => [(0, R ea .sh), (2, B false), (3, I s.2.2)]) (fun s => At s.2.2 s.2.1.length ∧ l = s.2.1 ++ s.1 ∧ exOk s.2.1 s.1 = T) (fun s => s.1.length) (l, [], 0) rfl ⟨rfl, rfl, hT.symm⟩ ?_
  intro c1 Q1 hc1 hQ1
  rintro ⟨suf, pre, i⟩ ⟨hi, hl', hb⟩ ih
  simp only at hi hl' hb ih
  cbv
  cases suf with
  | nil =>
    rw [F.lt_f hi la (by simp [hl'])]; cbv
    rw [hQ1]; cbv
    rw [hQ]; cbv
    rw [h6, ← hr, ← hb]; rfl
  | cons x suf =>
    obtain ⟨ix, hix⟩ : ∃ y_, y_ = pre.length * 2 := ⟨_, rfl⟩
    obtain ⟨e1, he1⟩ : ∃ y_, y_ = row fI x.body := ⟨_, rfl⟩
    have l1 := F.len_at he1
    have hx := w x (by rw [hl']; simp)
    have p0 : at' 2 ea i = some (ix, [.int .i64 x.tag, .row () e1]) := by rw [hix, he1]; exact F.get hi hea hl' (fun _ => rfl) (by decide)
    obtain ⟨b1, hb1⟩ : ∃ y_, y_ = inR x.tag 0 255 := ⟨_, rfl⟩
    obtain ⟨b2, hb2⟩ : ∃ y_, y_ = decide (4 < x.body.length) := ⟨_, rfl⟩
    obtain ⟨b3, hb3⟩ : ∃ y_, y_ = bytes x.body := ⟨_, rfl⟩
    obtain ⟨b4, hb4⟩ : ∃ y_, y_ = pre.any (tagP x.tag) := ⟨_, rfl⟩
    obtain ⟨v, hv⟩ : ∃ y_, y_ = extOf l x.tag := ⟨_, rfl⟩
    have g4 : gt (len e1) 4 = b2 := by rw [hb2]; exact F.gt_n l1 rfl
    have c1 : o 230 [I x.tag, I 0, I 255] = some ⟨[B b1], [], none⟩ := by rw [ho, hb1]; exact ok230 ..
    have c3 : o 231 [R e1 (.sp 0 0)] = some ⟨[B b3], [], none⟩ := by rw [ho, hb3, he1]; exact ok231 _ hx rfl
    have c4 : o 286 [R ea (.sp 0 0), I x.tag] = some ⟨[I v], [], none⟩ := by rw [ho, hv, hea]; exact ok286 _ _ hl rfl
    have g5 : lt v i = b4 := by rw [F.lt, hv, hb4, hl']; exact ixOf_lt (by simp [tagP]) hi
    have hT' : T = (b1 && !b2 && b3 && !b4 && exOk (pre ++ [x]) suf) := by rw [← hb, hb1, hb2, hb3, hb4]; rfl
    rw [F.lt_t hi la (by simp [hl'])]; cbv
    rw [p0]; cbv
    rw [c1]; cbv
    refine both (fun d1 => ?_) (fun d1 => ?_) <;> rw [d1] <;> cbv
    · rw [hQ1]; cbv
      rw [hQ]; cbv
      rw [← hr, show T = false by rw [hT', F.not_t d1]; rfl]; rfl
    rw [p0]; cbv
    rw [g4]; cbv
    refine both (fun d2 => ?_) (fun d2 => ?_) <;> rw [d2] <;> cbv
    · rw [hQ1]; cbv
      rw [hQ]; cbv
      rw [← hr, show T = false by rw [hT', d2]; simp]; rfl
    rw [p0]; cbv
    rw [c3]; cbv
    refine both (fun d3 => ?_) (fun d3 => ?_) <;> rw [d3] <;> cbv
    · rw [hQ1]; cbv
      rw [hQ]; cbv
      rw [← hr, show T = false by rw [hT', F.not_t d3]; simp]; rfl
    rw [p0]; cbv
    rw [c4]; cbv
    rw [g5]; cbv
    refine both (fun d4 => ?_) (fun d4 => ?_) <;> rw [d4] <;> cbv
    · rw [hQ1]; cbv
      rw [hQ]; cbv
      rw [← hr, show T = false by rw [hT', d4]; simp]; rfl
    refine ih (suf, pre ++ [x], add .i64 i 1) ⟨at_len (F.inc hi (by simp [hl'] at hl; omega)) (by simp), by simp [hl'], ?_⟩ (by simp)
    rw [hT', F.not_f d1, d2, F.not_f d3, d4]; simp

/- spec.IsHello -/
def isHel (h : Hello) : Bool := areVer h.versions && areEx h.exts
theorem ok142 (h : Hello) (hv : h.versions.length ≤ 1099511627776) (hl : h.exts.length ≤ 1099511627776) (w : ∀ y ∈ h.exts, y.body.length ≤ 1099511627776) {f0 f1 : Fl} (h0 : inFl f0 = true) (h1 : inFl f1 = true) : fix Tb md 142 [sHello (row fI h.versions) (row fExt h.exts) f0 f1] = some ⟨[B (isHel h)], [], none⟩ := by
  obtain ⟨a, ha⟩ : ∃ y_, y_ = areVer h.versions := ⟨_, rfl⟩
  obtain ⟨b, hb⟩ : ∃ y_, y_ = areEx h.exts := ⟨_, rfl⟩
  rw [show isHel h = (a && b) by rw [ha, hb]; rfl]
  generalize hr : (⟨_, [], none⟩ : Ret) = r
  obtain ⟨ea, hea⟩ : ∃ y_, y_ = row fI h.versions := ⟨_, rfl⟩
  obtain ⟨eb, heb⟩ : ∃ y_, y_ = row fExt h.exts := ⟨_, rfl⟩
  rw [← hea, ← heb]
  refine fix_fn2 (fn := ir142) tb_142 rfl rfl (by decide) rfl ?_; intro Q hQ; simp only [shutArgs, shutS, List.map_cons, List.map_nil, ir142, shut_in h0, shut_in h1, List.head?_nil, reduceCtorEq, if_false, sExt, sHello, sAnswer, sEdit, sDeal, sBox, sDialed, sKnown]
  intro add sub mul arith eq ne lt le gt ge neg conv mn mx not beq len at' ln bd cut app allS isNil mks set o hP F ho
  have c1 : o 257 [R ea (.sp 0 0)] = some ⟨[B a], [], none⟩ := by rw [ho, ha, hea]; exact ok257 _ hv rfl
  have c2 : o 271 [R eb (.sp 0 0)] = some ⟨[B b], [], none⟩ := by rw [ho, hb, heb]; exact ok271 _ hl w rfl
  cbv
  rw [c1]; cbv
  refine both (fun d1 => ?_) (fun d1 => ?_) <;> rw [d1] <;> cbv
  · rw [c2]; cbv
    rw [hQ]; cbv
    rw [← hr, d1]; rfl
  · rw [hQ]; cbv
    rw [← hr, d1]; rfl

def sel {α β : Type} (P : α → Bool) (g : α → β) (l : List α) : List β := (l.filter P).map g
theorem sel_t {α β : Type} {P : α → Bool} {g : α → β} {a : List α} {x : α} (h : P x = true) : sel P g (a ++ [x]) = sel P g a ++ [g x] := by unfold sel; rw [List.filter_append, List.filter_cons, h]; simp
theorem sel_f {α β : Type} {P : α → Bool} {g : α → β} {a : List α} {x : α} (h : P x = false) : sel P g (a ++ [x]) = sel P g a := by unfold sel; rw [List.filter_append, List.filter_cons, h]; simp
theorem sel_len {α β : Type} {P : α → Bool} {g : α → β} {a : List α} : (sel P g a).length ≤ a.length := by unfold sel; rw [List.length_map]; exact List.length_filter_le _ _
def hasI (l : List Int) (n : Int) : Bool := l.any fun y => decide (y = n)
def idE (e : Ext) : Ext := e
def idI (n : Int) : Int := n
theorem sel_idE {P : Ext → Bool} {l : List Ext} : sel P idE l = l.filter P := by unfold sel idE; simp
theorem sel_idI {P : Int → Bool} {l : List Int} : sel P idI l = l.filter P := by unfold sel idI; simp

/- spec.l9Has -/
theorem ok285 (l : List Int) (n : Int) (hl : l.length ≤ 1099511627776) {f0 : Fl} (h0 : inFl f0 = true) : fix Tb md 285 [R (row fI l) f0, I n] = some ⟨[B (hasI l n)], [], none⟩ := by
  obtain ⟨T, hT⟩ : ∃ y_, y_ = hasI l n := ⟨_, rfl⟩
  rw [← hT]
  generalize hr : (⟨_, [], none⟩ : Ret) = r
  obtain ⟨ea, hea⟩ : ∃ y_, y_ = row fI l := ⟨_, rfl⟩
  rw [← hea]
  refine fix_fn2 (fn := ir285) tb_285 rfl rfl (by decide) rfl ?_; intro Q hQ; simp only [shutArgs, shutS, List.map_cons, List.map_nil, ir285, shut_in h0, List.head?_nil, reduceCtorEq, if_false, sExt, sHello, sAnswer, sEdit, sDeal, sBox, sDialed, sKnown]
  intro add sub mul arith eq ne lt le gt ge neg conv mn mx not beq len at' ln bd cut app allS isNil mks set o hP F ho
  have la := F.len_at hea
  cbv
  refine loop_ind2 hP (σ := List Int × List Int × Int) (fun s => [(0, R ea .sh), (1, I n), (4, B false), (5, I s.2.2)]) (fun s => At s.2.2 s.2.1.length ∧ l = s.2.1 ++ s.1 ∧ hasI s.1 n = T) (fun s => s.1.length) (l, [], 0) rfl ⟨rfl, rfl, hT.symm⟩ ?_
  intro c1 Q1 hc1 hQ1
  rintro ⟨suf, pre, i⟩ ⟨hi, hl', hb⟩ ih
  simp only at hi hl' hb ih
  cbv
  cases suf with
  | nil =>
    rw [F.lt_f hi la (by simp [hl'])]; cbv
    rw [hQ1]; cbv
    rw [hQ]; cbv
    rw [← hr, ← hb]; rfl
  | cons x suf =>
    obtain ⟨v, hv⟩ : ∃ y_, y_ = decide (x = n) := ⟨_, rfl⟩
    have hT' : T = (v || hasI suf n) := by rw [← hb, hv]; rfl
    obtain ⟨ix, hix⟩ : ∃ y_, y_ = pre.length * 1 := ⟨_, rfl⟩
    rw [F.lt_t hi la (by simp [hl'])]; cbv
    rw [show at' 1 ea i = some (ix, [.int .i64 x]) by rw [hix]; exact F.get hi hea hl' (fun _ => rfl) (by decide)]; cbv
    rw [show eq x n = v by rw [F.eq, hv]]; cbv
    refine both (fun d => ?_) (fun d => ?_) <;> rw [d] <;> cbv
    · rw [hQ1]; cbv
      rw [hQ]; cbv
      rw [← hr, hT', d]; rfl
    · refine ih (suf, pre ++ [x], add .i64 i 1) ⟨at_len (F.inc hi (by simp [hl'] at hl; omega)) (by simp), by simp [hl'], ?_⟩ (by simp)
      rw [hT', d]; rfl

/- spec.l21Left -/
def notIn (b : List Int) (x : Int) : Bool := !hasI b x
theorem ok292 (l b : List Int) (hl : l.length ≤ 1073741824) (hb' : b.length ≤ 1073741824) {f0 f1 : Fl} (h0 : inFl f0 = true) (h1 : inFl f1 = true) : fix Tb md 292 [R (row fI l) f0, R (row fI b) f1] = some ⟨[R (row fI (sel (notIn b) idI l)) (.ow false)], [], none⟩ := by
  obtain ⟨et, het⟩ : ∃ y_, y_ = row fI (sel (notIn b) idI l) := ⟨_, rfl⟩
  rw [← het]
  generalize hr : (⟨_, [], none⟩ : Ret) = r
  obtain ⟨ea, hea⟩ : ∃ y_, y_ = row fI l := ⟨_, rfl⟩
  obtain ⟨eb, heb⟩ : ∃ y_, y_ = row fI b := ⟨_, rfl⟩
  rw [← hea, ← heb]
  refine fix_fn2 (fn := ir292) tb_292 rfl rfl (by decide) rfl ?_; intro Q hQ; simp only [shutArgs, shutS, List.map_cons, List.map_nil, ir292, shut_in h0, shut_in h1, List.head?_nil, reduceCtorEq, if_false, sExt, sHello, sAnswer, sEdit, sDeal, sBox, sDialed, sKnown]
  intro add sub mul arith eq ne lt le gt ge neg conv mn mx not beq len at' ln bd cut app allS isNil mks set o hP F ho
  have la := F.len_at hea
  cbv
  refine loop_ind2 hP (σ := List Int × List Int × List (List V) × Int) (fun s => [(0, R ea .sh), (1, R eb .sh), (4, R [] .nl), (5, R s.2.2.1 (.ow false)), (6, I s.2.2.2)]) (fun s => At s.2.2.2 s.2.1.length ∧ l = s.2.1 ++ s.1 ∧ s.2.2.1 = row fI (sel (notIn b) idI s.2.1)) (fun s => s.1.length) (l, [], [], 0) rfl ⟨rfl, rfl, rfl⟩ ?_
  intro c1 Q1 hc1 hQ1
  rintro ⟨suf, pre, eo, i⟩ ⟨hi, hl', hb⟩ ih
  simp only at hi hl' hb ih
  cbv
  cases suf with
  | nil =>
    rw [F.lt_f hi la (by simp [hl'])]; cbv
    rw [hQ1]; cbv
    rw [hQ]; cbv
    rw [← hr, het, hb, hl', List.append_nil]
  | cons x suf =>
    obtain ⟨ix, hix⟩ : ∃ y_, y_ = pre.length * 1 := ⟨_, rfl⟩
    have hpre : pre.length ≤ 1073741824 := by rw [hl'] at hl; simp at hl; omega
    have hs : (sel (notIn b) idI pre).length ≤ pre.length := sel_len
    have hi' : At (add .i64 i 1) (pre ++ [x]).length := at_len (F.inc hi (by omega)) (by simp)
    have hl2 : l = (pre ++ [x]) ++ suf := by rw [hl']; simp
    have hmem : x ∈ l := by rw [hl']; simp
    have p0 : at' 1 ea i = some (ix, [.int .i64 x]) := by rw [hix]; exact F.get hi hea hl' (fun _ => rfl) (by decide)
    obtain ⟨v, hv⟩ : ∃ y_, y_ = hasI b x := ⟨_, rfl⟩
    have hP : notIn b x = !v := by rw [hv]; rfl
    have c2 : o 285 [R eb (.sp 0 0), I x] = some ⟨[B v], [], none⟩ := by rw [ho, hv, heb]; exact ok285 _ _ (by omega) rfl
    rw [F.lt_t hi la (by simp [hl'])]; cbv
    rw [p0]; cbv
    rw [c2]; cbv
    refine both (fun d => ?_) (fun d => ?_) <;> rw [d] <;> cbv
    · rw [p0]; cbv
      rw [show allS [[.int .i64 x]] = true by rw [F.allS]; rfl]; cbv
      obtain ⟨eo', heo'⟩ : ∃ y_, y_ = row fI (sel (notIn b) idI pre ++ [idI x]) := ⟨_, rfl⟩
      rw [show app 1 eo [[.int .i64 x]] = some eo' by rw [heo']; exact F.push hb (fun _ => rfl) rfl (by omega)]; cbv
      refine ih (suf, pre ++ [x], eo', add .i64 i 1) ⟨hi', hl2, by simp only; rw [heo', sel_t (by rw [hP, F.not_t d]; rfl)]⟩ (by simp)
    · refine ih (suf, pre ++ [x], eo, add .i64 i 1) ⟨hi', hl2, by simp only; rw [hb, sel_f (by rw [hP, F.not_f d]; rfl)]⟩ (by simp)

/- spec.KnownOf -/
def tagIn (b : List Int) (e : Ext) : Bool := hasI b e.tag
theorem ok307 (l : List Ext) (b : List Int) (hl : l.length ≤ 1073741824) (hb' : b.length ≤ 1073741824) (w : ∀ y ∈ l, y.body.length ≤ 1099511627776) {f0 f1 : Fl} (h0 : inFl f0 = true) (h1 : inFl f1 = true) : fix Tb md 307 [R (row fExt l) f0, R (row fI b) f1] = some ⟨[R (row fExt (sel (tagIn b) idE l)) (.ow false)], [], none⟩ := by
  obtain ⟨et, het⟩ : ∃ y_, y_ = row fExt (sel (tagIn b) idE l) := ⟨_, rfl⟩
  rw [← het]
  generalize hr : (⟨_, [], none⟩ : Ret) = r
  obtain ⟨ea, hea⟩ : ∃ y_, y_ = row fExt l := ⟨_, rfl⟩
  obtain ⟨eb, heb⟩ : ∃ y_, y_ = row fI b := ⟨_, rfl⟩
  rw [← hea, ← heb]
  refine fix_fn2 (fn := ir307) tb_307 rfl rfl (by decide) rfl ?_; intro Q hQ; simp only [shutArgs, shutS, List.map_cons, List.map_nil, ir307, shut_in h0, shut_in h1, List.head?_nil, reduceCtorEq, if_false, sExt, sHello, sAnswer, sEdit, sDeal, sBox, sDialed, sKnown]
  intro add sub mul arith eq ne lt le gt ge neg conv mn mx not beq len at' ln bd cut app allS isNil mks set o hP F ho
  have la := F.len_at hea
  cbv
  refine loop_ind2 hP (σ := List Ext × List Ext × List (List V) × Int) (fun s => [(0, R ea .sh), (1, R eb .sh), (4, R [] .nl), (5, R s.2.2.1 (.ow false)), (6, I s.2.2.2)]) (fun s => At s.2.2.2 s.2.1.length ∧ l = s.2.1 ++ s.1 ∧ s.2.2.1 = row fExt (sel (tagIn b) idE s.2.1)) (fun s => s.1.length) (l, [], [], 0) rfl ⟨rfl, rfl, rfl⟩ ?_
  intro c1 Q1 hc1 hQ1
  rintro ⟨suf, pre, eo, i⟩ ⟨hi, hl', hb⟩ ih
  simp only at hi hl' hb ih
  cbv
  cases suf with
  | nil =>
    rw [F.lt_f hi la (by simp [hl'])]; cbv
    rw [hQ1]; cbv
    rw [hQ]; cbv
    rw [← hr, het, hb, hl', List.append_nil]
  | cons x suf =>
    obtain ⟨ix, hix⟩ : ∃ y_, y_ = pre.length * 2 := ⟨_, rfl⟩
    have hpre : pre.length ≤ 1073741824 := by rw [hl'] at hl; simp at hl; omega
    have hs : (sel (tagIn b) idE pre).length ≤ pre.length := sel_len
    have hi' : At (add .i64 i 1) (pre ++ [x]).length := at_len (F.inc hi (by omega)) (by simp)
    have hl2 : l = (pre ++ [x]) ++ suf := by rw [hl']; simp
    have hmem : x ∈ l := by rw [hl']; simp
    obtain ⟨e1, he1⟩ : ∃ y_, y_ = row fI x.body := ⟨_, rfl⟩
    have hx := w x hmem
    have p0 : at' 2 ea i = some (ix, [.int .i64 x.tag, .row () e1]) := by rw [hix, he1]; exact F.get hi hea hl' (fun _ => rfl) (by decide)
    obtain ⟨v, hv⟩ : ∃ y_, y_ = tagIn b x := ⟨_, rfl⟩
    have c2 : o 285 [R eb (.sp 0 0), I x.tag] = some ⟨[B v], [], none⟩ := by rw [ho, hv, heb]; exact ok285 _ _ (by omega) rfl
    rw [F.lt_t hi la (by simp [hl'])]; cbv
    rw [p0]; cbv
    rw [c2]; cbv
    refine both (fun d => ?_) (fun d => ?_) <;> rw [d] <;> cbv
    · rw [p0]; cbv
      rw [p0]; cbv
      rw [show allS e1 = true from F.scal he1 (fun _ => rfl)]; cbv
      rw [F.app_nil he1 (fun _ => rfl) hx]; cbv
      rw [show allS [[.int .i64 x.tag, .row () e1]] = false by rw [F.allS]; rfl]; cbv
      obtain ⟨eo', heo'⟩ : ∃ y_, y_ = row fExt (sel (tagIn b) idE pre ++ [idE x]) := ⟨_, rfl⟩
      rw [show app 2 eo [[.int .i64 x.tag, .row () e1]] = some eo' by rw [heo', he1]; exact F.push hb (fun _ => rfl) rfl (by omega)]; cbv
      refine ih (suf, pre ++ [x], eo', add .i64 i 1) ⟨hi', hl2, by simp only; rw [heo', sel_t (by rw [← hv, d])]⟩ (by simp)
    · refine ih (suf, pre ++ [x], eo, add .i64 i 1) ⟨hi', hl2, by simp only; rw [hb, sel_f (by rw [← hv, d])]⟩ (by simp)

/- spec.PartHello -/
def notTagIn (b : List Int) (e : Ext) : Bool := !hasI b e.tag
def partOk (h : Hello) (lv : List Int) : Bool := isHel h && !decide ((sel (notIn lv) idI h.versions).length = 0)
def partV (h : Hello) (lv tg : List Int) : Hello := if partOk h lv = true then ⟨sel (notIn lv) idI h.versions, sel (notTagIn tg) idE h.exts⟩ else ⟨[], []⟩
theorem partV_mid {h : Hello} {lv tg : List Int} (m : h.Mid) : (partV h lv tg).Mid := by
  unfold partV
  split
  · unfold Hello.Mid at *
    exact ⟨Nat.le_trans sel_len m.1, Nat.le_trans sel_len m.2.1, fun y hy => m.2.2 y (by simp only [sel_idE] at hy; exact (List.mem_filter.1 hy).1)⟩
  · exact ⟨by simp, by simp, by simp⟩
theorem ok164 (h : Hello) (lv tg : List Int) (mh : h.Mid) (a1 : lv.length ≤ 1073741824) (a2 : tg.length ≤ 1073741824) {f0 f1 f2 f3 : Fl} (q0 : inFl f0 = true) (q1 : inFl f1 = true) (q2 : inFl f2 = true) (q3 : inFl f3 = true) :
    fix Tb md 164 [sHello (row fI h.versions) (row fExt h.exts) f0 f1, R (row fI lv) f2, R (row fI tg) f3] = some ⟨[sHello (row fI (partV h lv tg).versions) (row fExt (partV h lv tg).exts) (.ow false) (.ow false), B (partOk h lv)], [], none⟩ ∨
    ((partV h lv tg).exts = [] ∧ fix Tb md 164 [sHello (row fI h.versions) (row fExt h.exts) f0 f1, R (row fI lv) f2, R (row fI tg) f3] = some ⟨[sHello (row fI (partV h lv tg).versions) [] (.ow false) .nl, B (partOk h lv)], [], none⟩) ∨
    ((partV h lv tg).versions = [] ∧ (partV h lv tg).exts = [] ∧ fix Tb md 164 [sHello (row fI h.versions) (row fExt h.exts) f0 f1, R (row fI lv) f2, R (row fI tg) f3] = some ⟨[sHello [] [] .nl .nl, B (partOk h lv)], [], none⟩) := by
  have mh' := mh
  unfold Hello.Mid at mh'
  have hvl := mh'.1
  have hxl := mh'.2.1
  have wh : ∀ y ∈ h.exts, y.body.length ≤ 1099511627776 := fun y hy => Nat.le_trans (show y.body.length ≤ 1073741824 from mh'.2.2 y hy) (by decide)
  obtain ⟨W, hW⟩ : ∃ y_, y_ = sel (notIn lv) idI h.versions := ⟨_, rfl⟩
  obtain ⟨Z, hZ⟩ : ∃ y_, y_ = sel (notTagIn tg) idE h.exts := ⟨_, rfl⟩
  have hWl : W.length ≤ 1073741824 := by rw [hW]; exact Nat.le_trans sel_len hvl
  have hZl : Z.length ≤ 1073741824 := by rw [hZ]; exact Nat.le_trans sel_len hxl
  -- the answer, one of three
  suffices hmain : ∀ r, (isHel h = true → W ≠ [] → Z ≠ [] → (⟨[sHello (row fI W) (row fExt Z) (.ow false) (.ow false), B true], [], none⟩ : Ret) = r) → (isHel h = true → W ≠ [] → Z = [] → (⟨[sHello (row fI W) [] (.ow false) .nl, B true], [], none⟩ : Ret) = r) → (isHel h = false ∨ W = [] → (⟨[sHello [] [] .nl .nl, B false], [], none⟩ : Ret) = r) → fix Tb md 164 [sHello (row fI h.versions) (row fExt h.exts) f0 f1, R (row fI lv) f2, R (row fI tg) f3] = some r by
    cases hi : isHel h with
    | false =>
      have ho : partOk h lv = false := by rw [partOk, hi]; rfl
      have hp : partV h lv tg = ⟨[], []⟩ := by rw [partV, ho]; rfl
      rw [hp, ho]
      exact .inr (.inr ⟨rfl, rfl, hmain _ (fun q => by rw [hi] at q; exact Bool.noConfusion q) (fun q => by rw [hi] at q; exact Bool.noConfusion q) (fun _ => rfl)⟩)
    | true =>
      by_cases hw : W = []
      · have ho : partOk h lv = false := by rw [partOk, hi, ← hW, hw]; rfl
        have hp : partV h lv tg = ⟨[], []⟩ := by rw [partV, ho]; rfl
        rw [hp, ho]
        exact .inr (.inr ⟨rfl, rfl, hmain _ (fun _ q => absurd hw q) (fun _ q => absurd hw q) (fun _ => rfl)⟩)
      · have ho : partOk h lv = true := by rw [partOk, hi, ← hW]; simp [hw]
        have hp : partV h lv tg = ⟨W, Z⟩ := by rw [partV, ho, if_pos rfl, hW, hZ]
        rw [hp, ho]
        by_cases hz : Z = []
        · refine .inr (.inl ⟨hz, hmain _ (fun _ _ q => absurd hz q) (fun _ _ _ => rfl) (fun q => ?_)⟩)
          rcases q with q | q
          · rw [hi] at q; exact Bool.noConfusion q
          · exact absurd q hw
        · refine .inl (hmain _ (fun _ _ _ => rfl) (fun _ _ q => absurd q hz) (fun q => ?_))
          rcases q with q | q
          · rw [hi] at q; exact Bool.noConfusion q
          · exact absurd q hw
  intro r rA rB rC
  obtain ⟨dv, hdv⟩ : ∃ y_, y_ = row fI h.versions := ⟨_, rfl⟩
  obtain ⟨dx, hdx⟩ : ∃ y_, y_ = row fExt h.exts := ⟨_, rfl⟩
  obtain ⟨el, hel⟩ : ∃ y_, y_ = row fI lv := ⟨_, rfl⟩
  obtain ⟨et, het⟩ : ∃ y_, y_ = row fI tg := ⟨_, rfl⟩
  rw [← hdv, ← hdx, ← hel, ← het]
  obtain ⟨u, hu⟩ : ∃ y_, y_ = isHel h := ⟨_, rfl⟩
  refine fix_fn2 (fn := ir164) tb_164 rfl rfl (by decide) rfl ?_; intro Q hQ; simp only [shutArgs, shutS, List.map_cons, List.map_nil, ir164, shut_in q0, shut_in q1, shut_in q2, shut_in q3, List.head?_nil, reduceCtorEq, if_false, sExt, sHello, sAnswer, sEdit, sDeal, sBox, sDialed, sKnown]
  intro add sub mul arith eq ne lt le gt ge neg conv mn mx not beq len at' ln bd cut app allS isNil mks set o hP F ho
  have lvn := F.len_at hdv
  have lxn := F.len_at hdx
  have c1 : o 142 [sHello dv dx (.sp 0 0) (.sp 0 1)] = some ⟨[B u], [], none⟩ := by rw [ho, hu, hdv, hdx]; exact ok142 _ (by omega) (by omega) wh rfl rfl
  cbv
  rw [c1]; cbv
  refine both (fun d0 => ?_) (fun d0 => ?_) <;> rw [d0] <;> cbv
  · rw [hQ]; cbv
    exact congrArg some (rC (.inl (by rw [← hu]; exact F.not_t d0)))
  have hel1 : isHel h = true := by rw [← hu]; exact F.not_f d0
  refine loop_ind2 hP (σ := List Int × List Int × Int × Option (List (List V))) (fun s => match s.2.2.2 with
    | none => [(0, sHello dv dx .sh .sh), (1, R el .sh), (2, R et .sh), (3, ⟨.ptr 86 0, []⟩), (6, ⟨.ptr 89 0, []⟩), (7, B false), (8, ⟨.ptr 91 0, []⟩), (9, I s.2.2.1), (86, ⟨.box (), [⟨.row () dv, .sh⟩, ⟨.row () dx, .sh⟩]⟩), (89, ⟨.box (), [⟨.row () [], .nl⟩, ⟨.row () [], .nl⟩]⟩), (91, ⟨.box (), [⟨.row () [], .nl⟩, ⟨.row () [], .nl⟩]⟩)]
    | some eo => [(0, sHello dv dx .sh .sh), (1, R el .sh), (2, R et .sh), (3, ⟨.ptr 86 0, []⟩), (6, ⟨.ptr 89 0, []⟩), (7, B false), (8, ⟨.ptr 91 0, []⟩), (9, I s.2.2.1), (86, ⟨.box (), [⟨.row () dv, .sh⟩, ⟨.row () dx, .sh⟩]⟩), (89, ⟨.box (), [⟨.row () [], .nl⟩, ⟨.row () [], .nl⟩]⟩), (91, ⟨.box (), [⟨.row () eo, .ow false⟩, ⟨.row () [], .nl⟩]⟩)])
    (fun s => At s.2.2.1 s.2.1.length ∧ h.versions = s.2.1 ++ s.1 ∧ (match s.2.2.2 with | none => sel (notIn lv) idI s.2.1 = [] | some eo => eo = row fI (sel (notIn lv) idI s.2.1) ∧ sel (notIn lv) idI s.2.1 ≠ [])) (fun s => s.1.length) (h.versions, [], 0, none) rfl ⟨rfl, rfl, rfl⟩ ?_
  intro c2 Q1 hc2 hQ1
  rintro ⟨suf, pre, i, j⟩ ⟨hi, hl', hb⟩ ih
  simp only at hi hl' hb ih
  have hpre : pre.length ≤ 1073741824 := by rw [hl'] at hvl; simp at hvl; omega
  have hs : (sel (notIn lv) idI pre).length ≤ pre.length := sel_len
  cases j with
  | none =>
    cbv
    cases suf with
    | cons x suf =>
      obtain ⟨ix, hix⟩ : ∃ y_, y_ = pre.length * 1 := ⟨_, rfl⟩
      have hi' : At (add .i64 i 1) (pre ++ [x]).length := at_len (F.inc hi (by omega)) (by simp)
      have hl2 : h.versions = (pre ++ [x]) ++ suf := by rw [hl']; simp
      have p0 : at' 1 dv i = some (ix, [.int .i64 x]) := by rw [hix]; exact F.get hi hdv hl' (fun _ => rfl) (by decide)
      obtain ⟨v, hv⟩ : ∃ y_, y_ = hasI lv x := ⟨_, rfl⟩
      have hPx : notIn lv x = !v := by rw [hv]; rfl
      have c3 : o 285 [R el (.sp 0 0), I x] = some ⟨[B v], [], none⟩ := by rw [ho, hv, hel]; exact ok285 _ _ (by omega) rfl
      rw [F.lt_t hi lvn (by simp [hl'])]; cbv
      rw [p0]; cbv
      rw [c3]; cbv
      refine both (fun d => ?_) (fun d => ?_) <;> rw [d] <;> cbv
      · rw [p0]; cbv
        rw [show allS [[.int .i64 x]] = true by rw [F.allS]; rfl]; cbv
        obtain ⟨eo', heo'⟩ : ∃ y_, y_ = row fI (sel (notIn lv) idI pre ++ [idI x]) := ⟨_, rfl⟩
        rw [show app 1 [] [[.int .i64 x]] = some eo' by rw [heo']; exact F.push (k := 1) (f := fI) (l := sel (notIn lv) idI pre) (x := idI x) (by rw [hb]; rfl) (fun _ => rfl) rfl (by omega)]; cbv
        try (rw [show isNil [[.int .i64 x]] = false by rw [F.isNil]; rfl]; cbv)
        refine ih (suf, pre ++ [x], add .i64 i 1, some eo') ⟨hi', hl2, ?_⟩ (by simp)
        simp only
        rw [sel_t (by rw [hPx, F.not_t d]; rfl)]
        exact ⟨heo', by simp⟩
      · refine ih (suf, pre ++ [x], add .i64 i 1, none) ⟨hi', hl2, ?_⟩ (by simp)
        simp only
        rw [sel_f (by rw [hPx, F.not_f d]; rfl)]
        exact hb
    | nil =>
      have hWp : sel (notIn lv) idI pre = W := by rw [hW, hl', List.append_nil]
      rw [hWp] at hb
      rw [F.lt_f hi lvn (by simp [hl'])]; cbv
      rw [hQ1]; cbv
      clear ih hl' hs hpre hWp
      refine loop_ind2 hP (σ := List Ext × List Ext × Int × Option (List (List V))) (fun s => match s.2.2.2 with
        | none => [(0, sHello dv dx .sh .sh), (1, R el .sh), (2, R et .sh), (3, ⟨.ptr 86 0, []⟩), (6, ⟨.ptr 89 0, []⟩), (7, B false), (8, ⟨.ptr 91 0, []⟩), (9, I i), (10, I s.2.2.1), (86, ⟨.box (), [⟨.row () dv, .sh⟩, ⟨.row () dx, .sh⟩]⟩), (89, ⟨.box (), [⟨.row () [], .nl⟩, ⟨.row () [], .nl⟩]⟩), (91, ⟨.box (), [⟨.row () [], .nl⟩, ⟨.row () [], .nl⟩]⟩)]
        | some eo => [(0, sHello dv dx .sh .sh), (1, R el .sh), (2, R et .sh), (3, ⟨.ptr 86 0, []⟩), (6, ⟨.ptr 89 0, []⟩), (7, B false), (8, ⟨.ptr 91 0, []⟩), (9, I i), (10, I s.2.2.1), (86, ⟨.box (), [⟨.row () dv, .sh⟩, ⟨.row () dx, .sh⟩]⟩), (89, ⟨.box (), [⟨.row () [], .nl⟩, ⟨.row () [], .nl⟩]⟩), (91, ⟨.box (), [⟨.row () [], .nl⟩, ⟨.row () eo, .ow false⟩]⟩)])
        (fun s => At s.2.2.1 s.2.1.length ∧ h.exts = s.2.1 ++ s.1 ∧ (match s.2.2.2 with | none => sel (notTagIn tg) idE s.2.1 = [] | some eo => eo = row fExt (sel (notTagIn tg) idE s.2.1) ∧ sel (notTagIn tg) idE s.2.1 ≠ [])) (fun s => s.1.length) (h.exts, [], 0, none) rfl ⟨rfl, rfl, rfl⟩ ?_
      intro c4 Q2 hc4 hQ2
      rintro ⟨suf, pre, k, m⟩ ⟨hk, hl', hz⟩ ih
      simp only at hk hl' hz ih
      have hpre : pre.length ≤ 1073741824 := by rw [hl'] at hxl; simp at hxl; omega
      have hs : (sel (notTagIn tg) idE pre).length ≤ pre.length := sel_len
      cases m with
      | none =>
        cbv
        cases suf with
        | cons x suf =>
          obtain ⟨ix, hix⟩ : ∃ y_, y_ = pre.length * 2 := ⟨_, rfl⟩
          obtain ⟨e1, he1⟩ : ∃ y_, y_ = row fI x.body := ⟨_, rfl⟩
          have hx := wh x (by rw [hl']; simp)
          have hi' : At (add .i64 k 1) (pre ++ [x]).length := at_len (F.inc hk (by omega)) (by simp)
          have hl2 : h.exts = (pre ++ [x]) ++ suf := by rw [hl']; simp
          have p0 : at' 2 dx k = some (ix, [.int .i64 x.tag, .row () e1]) := by rw [hix, he1]; exact F.get hk hdx hl' (fun _ => rfl) (by decide)
          obtain ⟨v, hv⟩ : ∃ y_, y_ = hasI tg x.tag := ⟨_, rfl⟩
          have hPx : notTagIn tg x = !v := by rw [hv]; rfl
          have c3 : o 285 [R et (.sp 0 0), I x.tag] = some ⟨[B v], [], none⟩ := by rw [ho, hv, het]; exact ok285 _ _ (by omega) rfl
          rw [F.lt_t hk lxn (by simp [hl'])]; cbv
          rw [p0]; cbv
          rw [c3]; cbv
          refine both (fun d => ?_) (fun d => ?_) <;> rw [d] <;> cbv
          · rw [p0]; cbv
            rw [p0]; cbv
            rw [show allS e1 = true from F.scal he1 (fun _ => rfl)]; cbv
            rw [F.app_nil he1 (fun _ => rfl) hx]; cbv
            rw [show allS [[.int .i64 x.tag, .row () e1]] = false by rw [F.allS]; rfl]; cbv
            obtain ⟨eo', heo'⟩ : ∃ y_, y_ = row fExt (sel (notTagIn tg) idE pre ++ [idE x]) := ⟨_, rfl⟩
            rw [show app 2 [] [[.int .i64 x.tag, .row () e1]] = some eo' by rw [heo', he1]; exact F.push (k := 2) (f := fExt) (l := sel (notTagIn tg) idE pre) (x := idE x) (by rw [hz]; rfl) (fun _ => rfl) rfl (by omega)]; cbv
            try (rw [show isNil [[.int .i64 x.tag, .row () e1]] = false by rw [F.isNil]; rfl]; cbv)
            refine ih (suf, pre ++ [x], add .i64 k 1, some eo') ⟨hi', hl2, ?_⟩ (by simp)
            simp only
            rw [sel_t (by rw [hPx, F.not_t d]; rfl)]
            exact ⟨heo', by simp⟩
          · refine ih (suf, pre ++ [x], add .i64 k 1, none) ⟨hi', hl2, ?_⟩ (by simp)
            simp only
            rw [sel_f (by rw [hPx, F.not_f d]; rfl)]
            exact hz
        | nil =>
          have hZp : sel (notTagIn tg) idE pre = Z := by rw [hZ, hl', List.append_nil]
          rw [hZp] at hz
          have lw : At (len []) W.length := F.len_at (f := fI) (l := W) (by rw [hb]; rfl)
          have g1 : eq (len []) 0 = decide (W.length = 0) := F.eq_n lw rfl
          rw [F.lt_f hk lxn (by simp [hl'])]; cbv
          rw [hQ2]; cbv
          rw [show eq (len []) 0 = true by rw [g1, hb]; rfl]; cbv
          rw [hQ]; cbv
          exact congrArg some (rC (.inr hb))
      | some mx =>
        cbv
        cases suf with
        | cons x suf =>
          obtain ⟨ix, hix⟩ : ∃ y_, y_ = pre.length * 2 := ⟨_, rfl⟩
          obtain ⟨e1, he1⟩ : ∃ y_, y_ = row fI x.body := ⟨_, rfl⟩
          have hx := wh x (by rw [hl']; simp)
          have hi' : At (add .i64 k 1) (pre ++ [x]).length := at_len (F.inc hk (by omega)) (by simp)
          have hl2 : h.exts = (pre ++ [x]) ++ suf := by rw [hl']; simp
          have p0 : at' 2 dx k = some (ix, [.int .i64 x.tag, .row () e1]) := by rw [hix, he1]; exact F.get hk hdx hl' (fun _ => rfl) (by decide)
          obtain ⟨v, hv⟩ : ∃ y_, y_ = hasI tg x.tag := ⟨_, rfl⟩
          have hPx : notTagIn tg x = !v := by rw [hv]; rfl
          have c3 : o 285 [R et (.sp 0 0), I x.tag] = some ⟨[B v], [], none⟩ := by rw [ho, hv, het]; exact ok285 _ _ (by omega) rfl
          rw [F.lt_t hk lxn (by simp [hl'])]; cbv
          rw [p0]; cbv
          rw [c3]; cbv
          refine both (fun d => ?_) (fun d => ?_) <;> rw [d] <;> cbv
          · rw [p0]; cbv
            rw [p0]; cbv
            rw [show allS e1 = true from F.scal he1 (fun _ => rfl)]; cbv
            rw [F.app_nil he1 (fun _ => rfl) hx]; cbv
            rw [show allS [[.int .i64 x.tag, .row () e1]] = false by rw [F.allS]; rfl]; cbv
            obtain ⟨eo', heo'⟩ : ∃ y_, y_ = row fExt (sel (notTagIn tg) idE pre ++ [idE x]) := ⟨_, rfl⟩
            rw [show app 2 mx [[.int .i64 x.tag, .row () e1]] = some eo' by rw [heo', he1]; exact F.push (k := 2) (f := fExt) (l := sel (notTagIn tg) idE pre) (x := idE x) hz.1 (fun _ => rfl) rfl (by omega)]; cbv
            try (rw [show isNil [[.int .i64 x.tag, .row () e1]] = false by rw [F.isNil]; rfl]; cbv)
            refine ih (suf, pre ++ [x], add .i64 k 1, some eo') ⟨hi', hl2, ?_⟩ (by simp)
            simp only
            rw [sel_t (by rw [hPx, F.not_t d]; rfl)]
            exact ⟨heo', by simp⟩
          · refine ih (suf, pre ++ [x], add .i64 k 1, some mx) ⟨hi', hl2, ?_⟩ (by simp)
            simp only
            rw [sel_f (by rw [hPx, F.not_f d]; rfl)]
            exact hz
        | nil =>
          have hZp : sel (notTagIn tg) idE pre = Z := by rw [hZ, hl', List.append_nil]
          rw [hZp] at hz
          have lw : At (len []) W.length := F.len_at (f := fI) (l := W) (by rw [hb]; rfl)
          have g1 : eq (len []) 0 = decide (W.length = 0) := F.eq_n lw rfl
          rw [F.lt_f hk lxn (by simp [hl'])]; cbv
          rw [hQ2]; cbv
          rw [show eq (len []) 0 = true by rw [g1, hb]; rfl]; cbv
          rw [hQ]; cbv
          exact congrArg some (rC (.inr hb))
  | some jx =>
    cbv
    cases suf with
    | cons x suf =>
      obtain ⟨ix, hix⟩ : ∃ y_, y_ = pre.length * 1 := ⟨_, rfl⟩
      have hi' : At (add .i64 i 1) (pre ++ [x]).length := at_len (F.inc hi (by omega)) (by simp)
      have hl2 : h.versions = (pre ++ [x]) ++ suf := by rw [hl']; simp
      have p0 : at' 1 dv i = some (ix, [.int .i64 x]) := by rw [hix]; exact F.get hi hdv hl' (fun _ => rfl) (by decide)
      obtain ⟨v, hv⟩ : ∃ y_, y_ = hasI lv x := ⟨_, rfl⟩
      have hPx : notIn lv x = !v := by rw [hv]; rfl
      have c3 : o 285 [R el (.sp 0 0), I x] = some ⟨[B v], [], none⟩ := by rw [ho, hv, hel]; exact ok285 _ _ (by omega) rfl
      rw [F.lt_t hi lvn (by simp [hl'])]; cbv
      rw [p0]; cbv
      rw [c3]; cbv
      refine both (fun d => ?_) (fun d => ?_) <;> rw [d] <;> cbv
      · rw [p0]; cbv
        rw [show allS [[.int .i64 x]] = true by rw [F.allS]; rfl]; cbv
        obtain ⟨eo', heo'⟩ : ∃ y_, y_ = row fI (sel (notIn lv) idI pre ++ [idI x]) := ⟨_, rfl⟩
        rw [show app 1 jx [[.int .i64 x]] = some eo' by rw [heo']; exact F.push (k := 1) (f := fI) (l := sel (notIn lv) idI pre) (x := idI x) hb.1 (fun _ => rfl) rfl (by omega)]; cbv
        try (rw [show isNil [[.int .i64 x]] = false by rw [F.isNil]; rfl]; cbv)
        refine ih (suf, pre ++ [x], add .i64 i 1, some eo') ⟨hi', hl2, ?_⟩ (by simp)
        simp only
        rw [sel_t (by rw [hPx, F.not_t d]; rfl)]
        exact ⟨heo', by simp⟩
      · refine ih (suf, pre ++ [x], add .i64 i 1, some jx) ⟨hi', hl2, ?_⟩ (by simp)
        simp only
        rw [sel_f (by rw [hPx, F.not_f d]; rfl)]
        exact hb
    | nil =>
      have hWp : sel (notIn lv) idI pre = W := by rw [hW, hl', List.append_nil]
      rw [hWp] at hb
      rw [F.lt_f hi lvn (by simp [hl'])]; cbv
      rw [hQ1]; cbv
      clear ih hl' hs hpre hWp
      refine loop_ind2 hP (σ := List Ext × List Ext × Int × Option (List (List V))) (fun s => match s.2.2.2 with
        | none => [(0, sHello dv dx .sh .sh), (1, R el .sh), (2, R et .sh), (3, ⟨.ptr 86 0, []⟩), (6, ⟨.ptr 89 0, []⟩), (7, B false), (8, ⟨.ptr 91 0, []⟩), (9, I i), (10, I s.2.2.1), (86, ⟨.box (), [⟨.row () dv, .sh⟩, ⟨.row () dx, .sh⟩]⟩), (89, ⟨.box (), [⟨.row () [], .nl⟩, ⟨.row () [], .nl⟩]⟩), (91, ⟨.box (), [⟨.row () jx, .ow false⟩, ⟨.row () [], .nl⟩]⟩)]
        | some eo => [(0, sHello dv dx .sh .sh), (1, R el .sh), (2, R et .sh), (3, ⟨.ptr 86 0, []⟩), (6, ⟨.ptr 89 0, []⟩), (7, B false), (8, ⟨.ptr 91 0, []⟩), (9, I i), (10, I s.2.2.1), (86, ⟨.box (), [⟨.row () dv, .sh⟩, ⟨.row () dx, .sh⟩]⟩), (89, ⟨.box (), [⟨.row () [], .nl⟩, ⟨.row () [], .nl⟩]⟩), (91, ⟨.box (), [⟨.row () jx, .ow false⟩, ⟨.row () eo, .ow false⟩]⟩)])
        (fun s => At s.2.2.1 s.2.1.length ∧ h.exts = s.2.1 ++ s.1 ∧ (match s.2.2.2 with | none => sel (notTagIn tg) idE s.2.1 = [] | some eo => eo = row fExt (sel (notTagIn tg) idE s.2.1) ∧ sel (notTagIn tg) idE s.2.1 ≠ [])) (fun s => s.1.length) (h.exts, [], 0, none) rfl ⟨rfl, rfl, rfl⟩ ?_
      intro c4 Q2 hc4 hQ2
      rintro ⟨suf, pre, k, m⟩ ⟨hk, hl', hz⟩ ih
      simp only at hk hl' hz ih
      have hpre : pre.length ≤ 1073741824 := by rw [hl'] at hxl; simp at hxl; omega
      have hs : (sel (notTagIn tg) idE pre).length ≤ pre.length := sel_len
      cases m with
      | none =>
        cbv
        cases suf with
        | cons x suf =>
          obtain ⟨ix, hix⟩ : ∃ y_, y_ = pre.length * 2 := ⟨_, rfl⟩
          obtain ⟨e1, he1⟩ : ∃ y_, y_ = row fI x.body := ⟨_, rfl⟩
          have hx := wh x (by rw [hl']; simp)
          have hi' : At (add .i64 k 1) (pre ++ [x]).length := at_len (F.inc hk (by omega)) (by simp)
          have hl2 : h.exts = (pre ++ [x]) ++ suf := by rw [hl']; simp
          have p0 : at' 2 dx k = some (ix, [.int .i64 x.tag, .row () e1]) := by rw [hix, he1]; exact F.get hk hdx hl' (fun _ => rfl) (by decide)
          obtain ⟨v, hv⟩ : ∃ y_, y_ = hasI tg x.tag := ⟨_, rfl⟩
          have hPx : notTagIn tg x = !v := by rw [hv]; rfl
          have c3 : o 285 [R et (.sp 0 0), I x.tag] = some ⟨[B v], [], none⟩ := by rw [ho, hv, het]; exact ok285 _ _ (by omega) rfl
          rw [F.lt_t hk lxn (by simp [hl'])]; cbv
          rw [p0]; cbv
          rw [c3]; cbv
          refine both (fun d => ?_) (fun d => ?_) <;> rw [d] <;> cbv
          · rw [p0]; cbv
            rw [p0]; cbv
            rw [show allS e1 = true from F.scal he1 (fun _ => rfl)]; cbv
            rw [F.app_nil he1 (fun _ => rfl) hx]; cbv
            rw [show allS [[.int .i64 x.tag, .row () e1]] = false by rw [F.allS]; rfl]; cbv
            obtain ⟨eo', heo'⟩ : ∃ y_, y_ = row fExt (sel (notTagIn tg) idE pre ++ [idE x]) := ⟨_, rfl⟩
            rw [show app 2 [] [[.int .i64 x.tag, .row () e1]] = some eo' by rw [heo', he1]; exact F.push (k := 2) (f := fExt) (l := sel (notTagIn tg) idE pre) (x := idE x) (by rw [hz]; rfl) (fun _ => rfl) rfl (by omega)]; cbv
            try (rw [show isNil [[.int .i64 x.tag, .row () e1]] = false by rw [F.isNil]; rfl]; cbv)
            refine ih (suf, pre ++ [x], add .i64 k 1, some eo') ⟨hi', hl2, ?_⟩ (by simp)
            simp only
            rw [sel_t (by rw [hPx, F.not_t d]; rfl)]
            exact ⟨heo', by simp⟩
          · refine ih (suf, pre ++ [x], add .i64 k 1, none) ⟨hi', hl2, ?_⟩ (by simp)
            simp only
            rw [sel_f (by rw [hPx, F.not_f d]; rfl)]
            exact hz
        | nil =>
          have hZp : sel (notTagIn tg) idE pre = Z := by rw [hZ, hl', List.append_nil]
          rw [hZp] at hz
          have lw : At (len jx) W.length := F.len_at hb.1
          have g1 : eq (len jx) 0 = decide (W.length = 0) := F.eq_n lw rfl
          rw [F.lt_f hk lxn (by simp [hl'])]; cbv
          rw [hQ2]; cbv
          rw [show eq (len jx) 0 = false by rw [g1]; simp [hb.2]]; cbv
          rw [hQ]; cbv
          rw [hb.1]; exact congrArg some (rB hel1 hb.2 hz)
      | some mx =>
        cbv
        cases suf with
        | cons x suf =>
          obtain ⟨ix, hix⟩ : ∃ y_, y_ = pre.length * 2 := ⟨_, rfl⟩
          obtain ⟨e1, he1⟩ : ∃ y_, y_ = row fI x.body := ⟨_, rfl⟩
          have hx := wh x (by rw [hl']; simp)
          have hi' : At (add .i64 k 1) (pre ++ [x]).length := at_len (F.inc hk (by omega)) (by simp)
          have hl2 : h.exts = (pre ++ [x]) ++ suf := by rw [hl']; simp
          have p0 : at' 2 dx k = some (ix, [.int .i64 x.tag, .row () e1]) := by rw [hix, he1]; exact F.get hk hdx hl' (fun _ => rfl) (by decide)
          obtain ⟨v, hv⟩ : ∃ y_, y_ = hasI tg x.tag := ⟨_, rfl⟩
          have hPx : notTagIn tg x = !v := by rw [hv]; rfl
          have c3 : o 285 [R et (.sp 0 0), I x.tag] = some ⟨[B v], [], none⟩ := by rw [ho, hv, het]; exact ok285 _ _ (by omega) rfl
          rw [F.lt_t hk lxn (by simp [hl'])]; cbv
          rw [p0]; cbv
          rw [c3]; cbv
          refine both (fun d => ?_) (fun d => ?_) <;> rw [d] <;> cbv
          · rw [p0]; cbv
            rw [p0]; cbv
            rw [show allS e1 = true from F.scal he1 (fun _ => rfl)]; cbv
            rw [F.app_nil he1 (fun _ => rfl) hx]; cbv
            rw [show allS [[.int .i64 x.tag, .row () e1]] = false by rw [F.allS]; rfl]; cbv
            obtain ⟨eo', heo'⟩ : ∃ y_, y_ = row fExt (sel (notTagIn tg) idE pre ++ [idE x]) := ⟨_, rfl⟩
            rw [show app 2 mx [[.int .i64 x.tag, .row () e1]] = some eo' by rw [heo', he1]; exact F.push (k := 2) (f := fExt) (l := sel (notTagIn tg) idE pre) (x := idE x) hz.1 (fun _ => rfl) rfl (by omega)]; cbv
            try (rw [show isNil [[.int .i64 x.tag, .row () e1]] = false by rw [F.isNil]; rfl]; cbv)
            refine ih (suf, pre ++ [x], add .i64 k 1, some eo') ⟨hi', hl2, ?_⟩ (by simp)
            simp only
            rw [sel_t (by rw [hPx, F.not_t d]; rfl)]
            exact ⟨heo', by simp⟩
          · refine ih (suf, pre ++ [x], add .i64 k 1, some mx) ⟨hi', hl2, ?_⟩ (by simp)
            simp only
            rw [sel_f (by rw [hPx, F.not_f d]; rfl)]
            exact hz
        | nil =>
          have hZp : sel (notTagIn tg) idE pre = Z := by rw [hZ, hl', List.append_nil]
          rw [hZp] at hz
          have lw : At (len jx) W.length := F.len_at hb.1
          have g1 : eq (len jx) 0 = decide (W.length = 0) := F.eq_n lw rfl
          rw [F.lt_f hk lxn (by simp [hl'])]; cbv
          rw [hQ2]; cbv
          rw [show eq (len jx) 0 = false by rw [g1]; simp [hb.2]]; cbv
          rw [hQ]; cbv
          rw [hb.1, hz.1]; exact congrArg some (rA hel1 hb.2 hz.2)

/- impl.InRange -/
theorem ok232 (x lo hi : Int) : fix Tb md 232 [I x, I lo, I hi] = some ⟨[B (inR x lo hi)], [], none⟩ := by
  refine fix_fn (fn := ir232) tb_232 rfl rfl (by decide) rfl ?_; simp only [shutArgs, shutS, List.map_cons, List.map_nil, ir232, List.head?_nil, reduceCtorEq, if_false, sExt, sHello, sAnswer, sEdit, sDeal, sBox, sDialed, sKnown]
  generalize hr : (⟨_, [], none⟩ : Ret) = r
  intro add sub mul arith eq ne lt le gt ge neg conv mn mx not beq len at' ln bd cut app allS isNil mks set o hP F ho
  cbv
  repeat' (first | (refine both (fun c => ?_) (fun c => ?_) <;> (try rw [c]) <;> (try cbv)))
  all_goals (clear hP  ho; try simp only [F.eq, F.ne, F.le, F.lt, F.ge, F.gt, F.not, F.beq] at *; clear F; subst hr)
  all_goals (simp_all [inR] <;> (intros; omega))

/- impl.AreVersions -/
theorem ok255 (l : List Int) (hl : l.length ≤ 1099511627776) {f0 : Fl} (h0 : inFl f0 = true) : fix Tb md 255 [R (row fI l) f0] = some ⟨[B (areVer l)], [], none⟩ := by
  obtain ⟨T, hT⟩ : ∃ y_, y_ = verGo [] l := ⟨_, rfl⟩
  rw [show areVer l = (T && decide (0 < l.length)) by rw [hT]; rfl]
  generalize hr : (⟨_, [], none⟩ : Ret) = r
  obtain ⟨ea, hea⟩ : ∃ y_, y_ = row fI l := ⟨_, rfl⟩
  rw [← hea]
  refine fix_fn2 (fn := ir255) tb_255 rfl rfl (by decide) rfl ?_; intro Q hQ; simp only [shutArgs, shutS, List.map_cons, List.map_nil, ir255, shut_in h0, List.head?_nil, reduceCtorEq, if_false, sExt, sHello, sAnswer, sEdit, sDeal, sBox, sDialed, sKnown]
  intro add sub mul arith eq ne lt le gt ge neg conv mn mx not beq len at' ln bd cut app allS isNil mks set o hP F ho
  have la := F.len_at hea
  have h6 : gt (len ea) 0 = decide (0 < l.length) := F.gt_n la rfl
  cbv
  refine loop_ind2 hP (σ := List Int × List Int × Int × Option (Int × Int)) (fun s => match s.2.2.2 with | none => [(0, R ea .sh), (2, B false), (5, R ea .sh), (6, I (len ea)), (7, I s.2.2.1)] | some j => [(0, R ea .sh), (2, B false), (3, I j.1), (4, I j.2), (5, R ea .sh), (6, I (len ea)), (7, I s.2.2.1)]) (fun s => At s.2.2.1 s.2.1.length ∧ l = s.2.1 ++ s.1 ∧ verGo s.2.1 s.1 = T) (fun s => s.1.length) (l, [], 0, none) rfl ⟨rfl, rfl, hT.symm⟩ ?_
  intro c1 Q1 hc1 hQ1
  rintro ⟨suf, pre, i, j⟩ ⟨hi, hl', hb⟩ ih
  simp only at hi hl' hb ih
  cases j with
  | none =>
    cbv
    cases suf with
    | nil =>
      rw [F.lt_f hi la (by simp [hl'])]; cbv
      rw [hQ1]; cbv
      rw [hQ]; cbv
      rw [h6, ← hr, ← hb]; rfl
    | cons x suf =>
      obtain ⟨ix, hix⟩ : ∃ y_, y_ = pre.length * 1 := ⟨_, rfl⟩
      have hpre : pre.length ≤ 1099511627776 := by rw [hl'] at hl; simp at hl; omega
      have p0 : at' 1 ea i = some (ix, [.int .i64 x]) := by rw [hix]; exact F.get hi hea hl' (fun _ => rfl) (by decide)
      obtain ⟨b1, hb1⟩ : ∃ y_, y_ = inR x 1 9 := ⟨_, rfl⟩
      have c1 : o 232 [I x, I 1, I 9] = some ⟨[B b1], [], none⟩ := by rw [ho, hb1]; exact ok232 ..
      have hv0 : verGo pre (x :: suf) = (b1 && (match pre.getLast? with | none => true | some y => !decide (x ≤ y)) && verGo (pre ++ [x]) suf) := by rw [hb1]; rfl
      rw [hv0] at hb
      have hi' : At (add .i64 i 1) (pre ++ [x]).length := at_len (F.inc hi (by omega)) (by simp)
      have hl2 : l = (pre ++ [x]) ++ suf := by rw [hl']; simp
      have hg0 : gt i 0 = decide (0 < pre.length) := F.gt_n hi rfl
      rw [F.lt_t hi la (by simp [hl'])]; cbv
      rw [p0]; cbv
      rw [c1]; cbv
      refine both (fun d1 => ?_) (fun d1 => ?_) <;> rw [d1] <;> cbv
      · rw [hQ1]; cbv
        rw [hQ]; cbv
        rw [← hr, show T = false by rw [← hb, F.not_t d1]; rfl]; rfl
      rw [F.not_f d1, Bool.true_and] at hb
      rcases List.eq_nil_or_concat pre with hp | ⟨p', y, hp⟩
      · rw [show gt i 0 = false by rw [hg0, hp]; rfl]; cbv
        refine ih (suf, pre ++ [x], add .i64 i 1, some (i, x)) ⟨hi', hl2, ?_⟩ (by simp)
        simp only
        rw [← hb, hp]; rfl
      · rw [show gt i 0 = true by rw [hg0, hp]; simp]; cbv
        obtain ⟨iy, hiy⟩ : ∃ y_, y_ = p'.length * 1 := ⟨_, rfl⟩
        have hi2 : At (sub .i64 i 1) p'.length := by unfold At at hi ⊢; rw [hp] at hi; simp at hi; rw [F.sub, hi, wrap64 (by omega) (by rw [hp] at hpre; simp at hpre; omega)]; omega
        rw [show at' 1 ea (sub .i64 i 1) = some (iy, [.int .i64 y]) by rw [hiy]; exact F.get hi2 hea (show l = p' ++ y :: (x :: suf) by rw [hl', hp]; simp) (fun _ => rfl) (by decide)]; cbv
        skip
        obtain ⟨u, hu⟩ : ∃ y_, y_ = decide (x ≤ y) := ⟨_, rfl⟩
        rw [show ge y x = u by rw [F.ge, hu]]; cbv
        have hgl : pre.getLast? = some y := by rw [hp]; simp
        rw [hgl] at hb
        simp only at hb
        rw [← hu] at hb
        refine both (fun d3 => ?_) (fun d3 => ?_) <;> rw [d3] <;> cbv
        · rw [hQ1]; cbv
          rw [hQ]; cbv
          rw [← hr, show T = false by rw [← hb, d3]; rfl]; rfl
        · refine ih (suf, pre ++ [x], add .i64 i 1, some (i, x)) ⟨hi', hl2, ?_⟩ (by simp)
          rw [← hb, d3]; simp
  | some jj =>
    obtain ⟨j1, j2⟩ := jj
    cbv
    cases suf with
    | nil =>
      rw [F.lt_f hi la (by simp [hl'])]; cbv
      rw [hQ1]; cbv
      rw [hQ]; cbv
      rw [h6, ← hr, ← hb]; rfl
    | cons x suf =>
      obtain ⟨ix, hix⟩ : ∃ y_, y_ = pre.length * 1 := ⟨_, rfl⟩
      have hpre : pre.length ≤ 1099511627776 := by rw [hl'] at hl; simp at hl; omega
      have p0 : at' 1 ea i = some (ix, [.int .i64 x]) := by rw [hix]; exact F.get hi hea hl' (fun _ => rfl) (by decide)
      obtain ⟨b1, hb1⟩ : ∃ y_, y_ = inR x 1 9 := ⟨_, rfl⟩
      have c1 : o 232 [I x, I 1, I 9] = some ⟨[B b1], [], none⟩ := by rw [ho, hb1]; exact ok232 ..
      have hv0 : verGo pre (x :: suf) = (b1 && (match pre.getLast? with | none => true | some y => !decide (x ≤ y)) && verGo (pre ++ [x]) suf) := by rw [hb1]; rfl
      rw [hv0] at hb
      have hi' : At (add .i64 i 1) (pre ++ [x]).length := at_len (F.inc hi (by omega)) (by simp)
      have hl2 : l = (pre ++ [x]) ++ suf := by rw [hl']; simp
      have hg0 : gt i 0 = decide (0 < pre.length) := F.gt_n hi rfl
      rw [F.lt_t hi la (by simp [hl'])]; cbv
      rw [p0]; cbv
      rw [c1]; cbv
      refine both (fun d1 => ?_) (fun d1 => ?_) <;> rw [d1] <;> cbv
      · rw [hQ1]; cbv
        rw [hQ]; cbv
        rw [← hr, show T = false by rw [← hb, F.not_t d1]; rfl]; rfl
      rw [F.not_f d1, Bool.true_and] at hb
      rcases List.eq_nil_or_concat pre with hp | ⟨p', y, hp⟩
      · rw [show gt i 0 = false by rw [hg0, hp]; rfl]; cbv
        refine ih (suf, pre ++ [x], add .i64 i 1, some (i, x)) ⟨hi', hl2, ?_⟩ (by simp)
        simp only
        rw [← hb, hp]; rfl
      · rw [show gt i 0 = true by rw [hg0, hp]; simp]; cbv
        obtain ⟨iy, hiy⟩ : ∃ y_, y_ = p'.length * 1 := ⟨_, rfl⟩
        have hi2 : At (sub .i64 i 1) p'.length := by unfold At at hi ⊢; rw [hp] at hi; simp at hi; rw [F.sub, hi, wrap64 (by omega) (by rw [hp] at hpre; simp at hpre; omega)]; omega
        rw [show at' 1 ea (sub .i64 i 1) = some (iy, [.int .i64 y]) by rw [hiy]; exact F.get hi2 hea (show l = p' ++ y :: (x :: suf) by rw [hl', hp]; simp) (fun _ => rfl) (by decide)]; cbv
        skip
        obtain ⟨u, hu⟩ : ∃ y_, y_ = decide (x ≤ y) := ⟨_, rfl⟩
        rw [show ge y x = u by rw [F.ge, hu]]; cbv
        have hgl : pre.getLast? = some y := by rw [hp]; simp
        rw [hgl] at hb
        simp only at hb
        rw [← hu] at hb
        refine both (fun d3 => ?_) (fun d3 => ?_) <;> rw [d3] <;> cbv
        · rw [hQ1]; cbv
          rw [hQ]; cbv
          rw [← hr, show T = false by rw [← hb, d3]; rfl]; rfl
        · refine ih (suf, pre ++ [x], add .i64 i 1, some (i, x)) ⟨hi', hl2, ?_⟩ (by simp)
          rw [← hb, d3]; simp

/- slices.IndexFunc[[]int,int] -/
theorem ok377_0 (g : Nat) (hg : md g = []) (p : Int → Bool) (l : List Int) (hl : l.length ≤ 1099511627776) (hp : ∀ x ∈ l, fix Tb md g [I x] = some ⟨[B (p x)], [], none⟩) {f0 : Fl} (h0 : inFl f0 = true) :
    fix Tb md 377 [R (row fI l) f0, ⟨.val, [⟨.fn g [], .sh⟩]⟩] = some ⟨[I (ixOf p l 0)], [], none⟩ := by
  generalize hm : md = m at hg hp ⊢
  refine fix_fn (fn := ir377) tb_377 rfl rfl (by decide) rfl ?_; simp only [shutArgs, shutS, List.map_cons, List.map_nil, ir377, shut_in h0, List.head?_nil, reduceCtorEq, if_false, sExt, sHello, sAnswer, sEdit, sDeal, sBox, sDialed, sKnown]
  generalize hr : (⟨_, [], none⟩ : Ret) = r
  obtain ⟨ea, hea⟩ : ∃ y_, y_ = row fI l := ⟨_, rfl⟩
  rw [← hea]
  intro add sub mul arith eq ne lt le gt ge neg conv mn mx not beq len at' ln bd cut app allS isNil mks set o hP F ho
  have la := F.len_at hea
  cbv
  refine loop_ind hP (σ := List Int × List Int × Int × Option Int) (fun s => match s.2.2.2 with | none => [(0, R ea .sh), (1, ⟨.val, [⟨.fn g [], .sh⟩]⟩), (4, I 0), (7, I (len ea)), (8, I s.2.2.1)] | some j => [(0, R ea .sh), (1, ⟨.val, [⟨.fn g [], .sh⟩]⟩), (4, I 0), (5, I j), (7, I (len ea)), (8, I s.2.2.1)])
    (fun s => At s.2.2.1 s.2.1.length ∧ l = s.2.1 ++ s.1 ∧ ixOf p s.1 (s.2.1.length : Int) = ixOf p l 0) (fun s => s.1.length) (l, [], 0, none) rfl ⟨rfl, rfl, rfl⟩ ?_
  rintro ⟨suf, pre, i, j⟩ ⟨hi, hl', hx⟩ ih
  simp only at hi hl' hx ih
  have hi' : i = (pre.length : Int) := hi
  rw [← hi'] at hx
  cases j <;> cbv <;> (
    cases suf with
    | nil =>
      rw [F.lt_f hi la (by simp [hl'])]; cbv
      rw [← hr, ← hx]; rfl
    | cons x suf =>
      rw [F.lt_t hi la (by simp [hl'])]; cbv
      obtain ⟨ix, hix⟩ : ∃ y_, y_ = pre.length * 1 := ⟨_, rfl⟩
      rw [show at' 1 ea i = some (ix, [.int .i64 x]) by rw [hix]; exact F.get hi hea hl' (fun _ => rfl) (by decide)]; cbv
      obtain ⟨v, hv⟩ : ∃ y_, y_ = p x := ⟨_, rfl⟩
      have c1 : o g [I x] = some ⟨[B v], [], none⟩ := by rw [ho, hv]; exact hp x (by rw [hl']; simp)
      rw [hg]; cbv
      rw [c1]; cbv
      have hx1 : ixOf p (x :: suf) i = if p x = true then i else ixOf p suf (i + 1) := rfl
      rw [hx1] at hx
      refine both (fun c => ?_) (fun c => ?_) <;> rw [c] <;> cbv
      · rw [← hv, if_pos c] at hx
        rw [← hr, ← hx]
      · rw [← hv, if_neg (by simp [c])] at hx
        refine ih (suf, pre ++ [x], add .i64 i 1, some i) ⟨at_len (F.inc hi (by simp [hl'] at hl; omega)) (by simp), by simp [hl'], ?_⟩ (by simp)
        rw [← hx, hi']
        simp)
theorem ok377_1 (g : Nat) (hg : md g = []) (k0 : V) (p : Int → Bool) (l : List Int) (hl : l.length ≤ 1099511627776) (hp : ∀ x ∈ l, fix Tb md g [I x, ⟨.val, [⟨k0, .sh⟩]⟩] = some ⟨[B (p x)], [], none⟩) {f0 : Fl} (h0 : inFl f0 = true) :
    fix Tb md 377 [R (row fI l) f0, ⟨.val, [⟨.fn g [k0], .sh⟩]⟩] = some ⟨[I (ixOf p l 0)], [], none⟩ := by
  generalize hm : md = m at hg hp ⊢
  refine fix_fn (fn := ir377) tb_377 rfl rfl (by decide) rfl ?_; simp only [shutArgs, shutS, List.map_cons, List.map_nil, ir377, shut_in h0, List.head?_nil, reduceCtorEq, if_false, sExt, sHello, sAnswer, sEdit, sDeal, sBox, sDialed, sKnown]
  generalize hr : (⟨_, [], none⟩ : Ret) = r
  obtain ⟨ea, hea⟩ : ∃ y_, y_ = row fI l := ⟨_, rfl⟩
  rw [← hea]
  intro add sub mul arith eq ne lt le gt ge neg conv mn mx not beq len at' ln bd cut app allS isNil mks set o hP F ho
  have la := F.len_at hea
  cbv
  refine loop_ind hP (σ := List Int × List Int × Int × Option Int) (fun s => match s.2.2.2 with | none => [(0, R ea .sh), (1, ⟨.val, [⟨.fn g [k0], .sh⟩]⟩), (4, I 0), (7, I (len ea)), (8, I s.2.2.1)] | some j => [(0, R ea .sh), (1, ⟨.val, [⟨.fn g [k0], .sh⟩]⟩), (4, I 0), (5, I j), (7, I (len ea)), (8, I s.2.2.1)])
    (fun s => At s.2.2.1 s.2.1.length ∧ l = s.2.1 ++ s.1 ∧ ixOf p s.1 (s.2.1.length : Int) = ixOf p l 0) (fun s => s.1.length) (l, [], 0, none) rfl ⟨rfl, rfl, rfl⟩ ?_
  rintro ⟨suf, pre, i, j⟩ ⟨hi, hl', hx⟩ ih
  simp only at hi hl' hx ih
  have hi' : i = (pre.length : Int) := hi
  rw [← hi'] at hx
  cases j <;> cbv <;> (
    cases suf with
    | nil =>
      rw [F.lt_f hi la (by simp [hl'])]; cbv
      rw [← hr, ← hx]; rfl
    | cons x suf =>
      rw [F.lt_t hi la (by simp [hl'])]; cbv
      obtain ⟨ix, hix⟩ : ∃ y_, y_ = pre.length * 1 := ⟨_, rfl⟩
      rw [show at' 1 ea i = some (ix, [.int .i64 x]) by rw [hix]; exact F.get hi hea hl' (fun _ => rfl) (by decide)]; cbv
      obtain ⟨v, hv⟩ : ∃ y_, y_ = p x := ⟨_, rfl⟩
      have c1 : o g [I x, ⟨.val, [⟨k0, .sh⟩]⟩] = some ⟨[B v], [], none⟩ := by rw [ho, hv]; exact hp x (by rw [hl']; simp)
      rw [hg]; cbv
      rw [c1]; cbv
      have hx1 : ixOf p (x :: suf) i = if p x = true then i else ixOf p suf (i + 1) := rfl
      rw [hx1] at hx
      refine both (fun c => ?_) (fun c => ?_) <;> rw [c] <;> cbv
      · rw [← hv, if_pos c] at hx
        rw [← hr, ← hx]
      · rw [← hv, if_neg (by simp [c])] at hx
        refine ih (suf, pre ++ [x], add .i64 i 1, some i) ⟨at_len (F.inc hi (by simp [hl'] at hl; omega)) (by simp), by simp [hl'], ?_⟩ (by simp)
        rw [← hx, hi']
        simp)
theorem ok377_2 (g : Nat) (hg : md g = []) (k0 k1 : V) (p : Int → Bool) (l : List Int) (hl : l.length ≤ 1099511627776) (hp : ∀ x ∈ l, fix Tb md g [I x, ⟨.val, [⟨k0, .sh⟩]⟩, ⟨.val, [⟨k1, .sh⟩]⟩] = some ⟨[B (p x)], [], none⟩) {f0 : Fl} (h0 : inFl f0 = true) :
    fix Tb md 377 [R (row fI l) f0, ⟨.val, [⟨.fn g [k0, k1], .sh⟩]⟩] = some ⟨[I (ixOf p l 0)], [], none⟩ := by
  generalize hm : md = m at hg hp ⊢
  refine fix_fn (fn := ir377) tb_377 rfl rfl (by decide) rfl ?_; simp only [shutArgs, shutS, List.map_cons, List.map_nil, ir377, shut_in h0, List.head?_nil, reduceCtorEq, if_false, sExt, sHello, sAnswer, sEdit, sDeal, sBox, sDialed, sKnown]
  generalize hr : (⟨_, [], none⟩ : Ret) = r
  obtain ⟨ea, hea⟩ : ∃ y_, y_ = row fI l := ⟨_, rfl⟩
  rw [← hea]
  intro add sub mul arith eq ne lt le gt ge neg conv mn mx not beq len at' ln bd cut app allS isNil mks set o hP F ho
  have la := F.len_at hea
  cbv
  refine loop_ind hP (σ := List Int × List Int × Int × Option Int) (fun s => match s.2.2.2 with | none => [(0, R ea .sh), (1, ⟨.val, [⟨.fn g [k0, k1], .sh⟩]⟩), (4, I 0), (7, I (len ea)), (8, I s.2.2.1)] | some j => [(0, R ea .sh), (1, ⟨.val, [⟨.fn g [k0, k1], .sh⟩]⟩), (4, I 0), (5, I j), (7, I (len ea)), (8, I s.2.2.1)])
    (fun s => At s.2.2.1 s.2.1.length ∧ l = s.2.1 ++ s.1 ∧ ixOf p s.1 (s.2.1.length : Int) = ixOf p l 0) (fun s => s.1.length) (l, [], 0, none) rfl ⟨rfl, rfl, rfl⟩ ?_
  rintro ⟨suf, pre, i, j⟩ ⟨hi, hl', hx⟩ ih
  simp only at hi hl' hx ih
  have hi' : i = (pre.length : Int) := hi
  rw [← hi'] at hx
  cases j <;> cbv <;> (
    cases suf with
    | nil =>
      rw [F.lt_f hi la (by simp [hl'])]; cbv
      rw [← hr, ← hx]; rfl
    | cons x suf =>
      rw [F.lt_t hi la (by simp [hl'])]; cbv
      obtain ⟨ix, hix⟩ : ∃ y_, y_ = pre.length * 1 := ⟨_, rfl⟩
      rw [show at' 1 ea i = some (ix, [.int .i64 x]) by rw [hix]; exact F.get hi hea hl' (fun _ => rfl) (by decide)]; cbv
      obtain ⟨v, hv⟩ : ∃ y_, y_ = p x := ⟨_, rfl⟩
      have c1 : o g [I x, ⟨.val, [⟨k0, .sh⟩]⟩, ⟨.val, [⟨k1, .sh⟩]⟩] = some ⟨[B v], [], none⟩ := by rw [ho, hv]; exact hp x (by rw [hl']; simp)
      rw [hg]; cbv
      rw [c1]; cbv
      have hx1 : ixOf p (x :: suf) i = if p x = true then i else ixOf p suf (i + 1) := rfl
      rw [hx1] at hx
      refine both (fun c => ?_) (fun c => ?_) <;> rw [c] <;> cbv
      · rw [← hv, if_pos c] at hx
        rw [← hr, ← hx]
      · rw [← hv, if_neg (by simp [c])] at hx
        refine ih (suf, pre ++ [x], add .i64 i 1, some i) ⟨at_len (F.inc hi (by simp [hl'] at hl; omega)) (by simp), by simp [hl'], ?_⟩ (by simp)
        rw [← hx, hi']
        simp)

/- slices.ContainsFunc[[]int,int] -/
theorem ok336_0 (g : Nat) (hg : md g = []) (p : Int → Bool) (l : List Int) (hl : l.length ≤ 1099511627776) (hp : ∀ x ∈ l, fix Tb md g [I x] = some ⟨[B (p x)], [], none⟩) {f0 : Fl} (h0 : inFl f0 = true) :
    fix Tb md 336 [R (row fI l) f0, ⟨.val, [⟨.fn g [], .sh⟩]⟩] = some ⟨[B (l.any p)], [], none⟩ := by
  refine fix_fn (fn := ir336) tb_336 rfl rfl (by decide) rfl ?_; simp only [shutArgs, shutS, List.map_cons, List.map_nil, ir336, shut_in h0, List.head?_nil, reduceCtorEq, if_false, sExt, sHello, sAnswer, sEdit, sDeal, sBox, sDialed, sKnown]
  generalize hr : (⟨_, [], none⟩ : Ret) = r
  obtain ⟨ea, hea⟩ : ∃ y_, y_ = row fI l := ⟨_, rfl⟩
  rw [← hea]
  obtain ⟨v, hv⟩ : ∃ y_, y_ = ixOf p l 0 := ⟨_, rfl⟩
  have hv2 : decide (0 ≤ v) = l.any p := by rw [hv]; exact ixOf_ge p l 0 (by decide)
  rw [← hv2] at hr
  clear hv2
  intro add sub mul arith eq ne lt le gt ge neg conv mn mx not beq len at' ln bd cut app allS isNil mks set o hP F ho
  have c1 : o 377 [R ea (.sp 0 0), ⟨.val, [⟨.fn g [], .sh⟩]⟩] = some ⟨[I v], [], none⟩ := by rw [ho, hv, hea]; exact ok377_0 g hg p l hl hp rfl
  cbv
  rw [c1]; cbv
  rw [← hr, F.ge]
theorem ok336_1 (g : Nat) (hg : md g = []) (k0 : V) (p : Int → Bool) (l : List Int) (hl : l.length ≤ 1099511627776) (hp : ∀ x ∈ l, fix Tb md g [I x, ⟨.val, [⟨k0, .sh⟩]⟩] = some ⟨[B (p x)], [], none⟩) {f0 : Fl} (h0 : inFl f0 = true) :
    fix Tb md 336 [R (row fI l) f0, ⟨.val, [⟨.fn g [k0], .sh⟩]⟩] = some ⟨[B (l.any p)], [], none⟩ := by
  refine fix_fn (fn := ir336) tb_336 rfl rfl (by decide) rfl ?_; simp only [shutArgs, shutS, List.map_cons, List.map_nil, ir336, shut_in h0, List.head?_nil, reduceCtorEq, if_false, sExt, sHello, sAnswer, sEdit, sDeal, sBox, sDialed, sKnown]
  generalize hr : (⟨_, [], none⟩ : Ret) = r
  obtain ⟨ea, hea⟩ : ∃ y_, y_ = row fI l := ⟨_, rfl⟩
  rw [← hea]
  obtain ⟨v, hv⟩ : ∃ y_, y_ = ixOf p l 0 := ⟨_, rfl⟩
  have hv2 : decide (0 ≤ v) = l.any p := by rw [hv]; exact ixOf_ge p l 0 (by decide)
  rw [← hv2] at hr
  clear hv2
  intro add sub mul arith eq ne lt le gt ge neg conv mn mx not beq len at' ln bd cut app allS isNil mks set o hP F ho
  have c1 : o 377 [R ea (.sp 0 0), ⟨.val, [⟨.fn g [k0], .sh⟩]⟩] = some ⟨[I v], [], none⟩ := by rw [ho, hv, hea]; exact ok377_1 g hg k0 p l hl hp rfl
  cbv
  rw [c1]; cbv
  rw [← hr, F.ge]
theorem ok336_2 (g : Nat) (hg : md g = []) (k0 k1 : V) (p : Int → Bool) (l : List Int) (hl : l.length ≤ 1099511627776) (hp : ∀ x ∈ l, fix Tb md g [I x, ⟨.val, [⟨k0, .sh⟩]⟩, ⟨.val, [⟨k1, .sh⟩]⟩] = some ⟨[B (p x)], [], none⟩) {f0 : Fl} (h0 : inFl f0 = true) :
    fix Tb md 336 [R (row fI l) f0, ⟨.val, [⟨.fn g [k0, k1], .sh⟩]⟩] = some ⟨[B (l.any p)], [], none⟩ := by
  refine fix_fn (fn := ir336) tb_336 rfl rfl (by decide) rfl ?_; simp only [shutArgs, shutS, List.map_cons, List.map_nil, ir336, shut_in h0, List.head?_nil, reduceCtorEq, if_false, sExt, sHello, sAnswer, sEdit, sDeal, sBox, sDialed, sKnown]
  generalize hr : (⟨_, [], none⟩ : Ret) = r
  obtain ⟨ea, hea⟩ : ∃ y_, y_ = row fI l := ⟨_, rfl⟩
  rw [← hea]
  obtain ⟨v, hv⟩ : ∃ y_, y_ = ixOf p l 0 := ⟨_, rfl⟩
  have hv2 : decide (0 ≤ v) = l.any p := by rw [hv]; exact ixOf_ge p l 0 (by decide)
  rw [← hv2] at hr
  clear hv2
  intro add sub mul arith eq ne lt le gt ge neg conv mn mx not beq len at' ln bd cut app allS isNil mks set o hP F ho
  have c1 : o 377 [R ea (.sp 0 0), ⟨.val, [⟨.fn g [k0, k1], .sh⟩]⟩] = some ⟨[I v], [], none⟩ := by rw [ho, hv, hea]; exact ok377_2 g hg k0 k1 p l hl hp rfl
  cbv
  rw [c1]; cbv
  rw [← hr, F.ge]

/- impl.areNumbers$1 -/
theorem ok340 (x lo hi : Int) : fix Tb md 340 [I x, ⟨.val, [⟨.ptr () [.int .i64 lo], .sh⟩]⟩, ⟨.val, [⟨.ptr () [.int .i64 hi], .sh⟩]⟩] = some ⟨[B (!inR x lo hi)], [], none⟩ := by
  refine fix_fn (fn := ir340) tb_340 rfl rfl (by decide) rfl ?_; simp only [shutArgs, shutS, List.map_cons, List.map_nil, ir340, List.head?_nil, reduceCtorEq, if_false, sExt, sHello, sAnswer, sEdit, sDeal, sBox, sDialed, sKnown]
  generalize hr : (⟨_, [], none⟩ : Ret) = r
  obtain ⟨v, hv⟩ : ∃ y_, y_ = inR x lo hi := ⟨_, rfl⟩
  rw [← hv] at hr
  intro add sub mul arith eq ne lt le gt ge neg conv mn mx not beq len at' ln bd cut app allS isNil mks set o hP F ho
  have c1 : o 232 [I x, I lo, I hi] = some ⟨[B v], [], none⟩ := by rw [ho, hv]; exact ok232 ..
  cbv
  rw [c1]; cbv
  rw [← hr, F.not]

/- impl.areNumbers -/
def nums (l : List Int) (lo hi : Int) : Bool := l.all fun x => inR x lo hi
theorem ok233 (l : List Int) (lo hi : Int) (hl : l.length ≤ 1099511627776) {f0 : Fl} (h0 : inFl f0 = true) : fix Tb md 233 [R (row fI l) f0, I lo, I hi] = some ⟨[B (nums l lo hi)], [], none⟩ := by
  rw [show nums l lo hi = !(l.any fun x => !inR x lo hi) by unfold nums; simp [List.all_eq_not_any_not]]
  refine fix_fn (fn := ir233) tb_233 rfl rfl (by decide) rfl ?_; simp only [shutArgs, shutS, List.map_cons, List.map_nil, ir233, shut_in h0, List.head?_nil, reduceCtorEq, if_false, sExt, sHello, sAnswer, sEdit, sDeal, sBox, sDialed, sKnown]
  generalize hr : (⟨_, [], none⟩ : Ret) = r
  obtain ⟨v, hv⟩ : ∃ y_, y_ = l.any fun x => !inR x lo hi := ⟨_, rfl⟩
  obtain ⟨ea, hea⟩ : ∃ y_, y_ = row fI l := ⟨_, rfl⟩
  rw [← hv] at hr
  rw [← hea]
  intro add sub mul arith eq ne lt le gt ge neg conv mn mx not beq len at' ln bd cut app allS isNil mks set o hP F ho
  have c1 : o 336 [R ea (.sp 0 0), ⟨.val, [⟨.fn 340 [.ptr () [.int .i64 lo], .ptr () [.int .i64 hi]], .sh⟩]⟩] = some ⟨[B v], [], none⟩ := by rw [ho, hv, hea]; exact ok336_2 340 rfl _ _ _ l hl (fun x _ => ok340 x lo hi) rfl
  cbv
  rw [c1]; cbv
  rw [← hr, F.not]

/- impl.Ext] -/
theorem ok351_0 (g : Nat) (hg : md g = []) (p : Ext → Bool) (l : List Ext) (hl : l.length ≤ 1099511627776) (hp : ∀ x ∈ l, fix Tb md g [sExt x.tag (row fI x.body) (.sp 0 1)] = some ⟨[B (p x)], [], none⟩) {f0 : Fl} (h0 : inFl f0 = true) :
    fix Tb md 351 [R (row fExt l) f0, ⟨.val, [⟨.fn g [], .sh⟩]⟩] = some ⟨[I (ixOf p l 0)], [], none⟩ := by
  generalize hm : md = m at hg hp ⊢
  refine fix_fn (fn := ir351) tb_351 rfl rfl (by decide) rfl ?_; simp only [shutArgs, shutS, List.map_cons, List.map_nil, ir351, shut_in h0, List.head?_nil, reduceCtorEq, if_false, sExt, sHello, sAnswer, sEdit, sDeal, sBox, sDialed, sKnown]
  generalize hr : (⟨_, [], none⟩ : Ret) = r
  obtain ⟨ea, hea⟩ : ∃ y_, y_ = row fExt l := ⟨_, rfl⟩
  rw [← hea]
  intro add sub mul arith eq ne lt le gt ge neg conv mn mx not beq len at' ln bd cut app allS isNil mks set o hP F ho
  have la := F.len_at hea
  cbv
  refine loop_ind hP (σ := List Ext × List Ext × Int × Option Int) (fun s => match s.2.2.2 with | none => [(0, R ea .sh), (1, ⟨.val, [⟨.fn g [], .sh⟩]⟩), (4, I 0), (7, I (len ea)), (8, I s.2.2.1)] | some j => [(0, R ea .sh), (1, ⟨.val, [⟨.fn g [], .sh⟩]⟩), (4, I 0), (5, I j), (7, I (len ea)), (8, I s.2.2.1)])
    (fun s => At s.2.2.1 s.2.1.length ∧ l = s.2.1 ++ s.1 ∧ ixOf p s.1 (s.2.1.length : Int) = ixOf p l 0) (fun s => s.1.length) (l, [], 0, none) rfl ⟨rfl, rfl, rfl⟩ ?_
  rintro ⟨suf, pre, i, j⟩ ⟨hi, hl', hx⟩ ih
  simp only at hi hl' hx ih
  have hi' : i = (pre.length : Int) := hi
  rw [← hi'] at hx
  cases j <;> cbv <;> (
    cases suf with
    | nil =>
      rw [F.lt_f hi la (by simp [hl'])]; cbv
      rw [← hr, ← hx]; rfl
    | cons x suf =>
      rw [F.lt_t hi la (by simp [hl'])]; cbv
      obtain ⟨e1, he1⟩ : ∃ y_, y_ = row fI x.body := ⟨_, rfl⟩
      obtain ⟨ix, hix⟩ : ∃ y_, y_ = pre.length * 2 := ⟨_, rfl⟩
      rw [show at' 2 ea i = some (ix, [.int .i64 x.tag, .row () e1]) by rw [hix, he1]; exact F.get hi hea hl' (fun _ => rfl) (by decide)]; cbv
      obtain ⟨v, hv⟩ : ∃ y_, y_ = p x := ⟨_, rfl⟩
      have c1 : o g [sExt x.tag e1 (.sp 0 1)] = some ⟨[B v], [], none⟩ := by rw [ho, hv, he1]; exact hp x (by rw [hl']; simp)
      rw [hg]; cbv
      rw [c1]; cbv
      have hx1 : ixOf p (x :: suf) i = if p x = true then i else ixOf p suf (i + 1) := rfl
      rw [hx1] at hx
      refine both (fun c => ?_) (fun c => ?_) <;> rw [c] <;> cbv
      · rw [← hv, if_pos c] at hx
        rw [← hr, ← hx]
      · rw [← hv, if_neg (by simp [c])] at hx
        refine ih (suf, pre ++ [x], add .i64 i 1, some i) ⟨at_len (F.inc hi (by simp [hl'] at hl; omega)) (by simp), by simp [hl'], ?_⟩ (by simp)
        rw [← hx, hi']
        simp)
theorem ok351_1 (g : Nat) (hg : md g = []) (k0 : V) (p : Ext → Bool) (l : List Ext) (hl : l.length ≤ 1099511627776) (hp : ∀ x ∈ l, fix Tb md g [sExt x.tag (row fI x.body) (.sp 0 1), ⟨.val, [⟨k0, .sh⟩]⟩] = some ⟨[B (p x)], [], none⟩) {f0 : Fl} (h0 : inFl f0 = true) :
    fix Tb md 351 [R (row fExt l) f0, ⟨.val, [⟨.fn g [k0], .sh⟩]⟩] = some ⟨[I (ixOf p l 0)], [], none⟩ := by
  generalize hm : md = m at hg hp ⊢
  refine fix_fn (fn := ir351) tb_351 rfl rfl (by decide) rfl ?_; simp only [shutArgs, shutS, List.map_cons, List.map_nil, ir351, shut_in h0, List.head?_nil, reduceCtorEq, if_false, sExt, sHello, sAnswer, sEdit, sDeal, sBox, sDialed, sKnown]
  generalize hr : (⟨_, [], none⟩ : Ret) = r
  obtain ⟨ea, hea⟩ : ∃ y_, y_ = row fExt l := ⟨_, rfl⟩
  rw [← hea]
  intro add sub mul arith eq ne lt le gt ge neg conv mn mx not beq len at' ln bd cut app allS isNil mks set o hP F ho
  have la := F.len_at hea
  cbv
  refine loop_ind hP (σ := List Ext × List Ext × Int × Option Int) (fun s => match s.2.2.2 with | none => [(0, R ea .sh), (1, ⟨.val, [⟨.fn g [k0], .sh⟩]⟩), (4, I 0), (7, I (len ea)), (8, I s.2.2.1)] | some j => [(0, R ea .sh), (1, ⟨.val, [⟨.fn g [k0], .sh⟩]⟩), (4, I 0), (5, I j), (7, I (len ea)), (8, I s.2.2.1)])
    (fun s => At s.2.2.1 s.2.1.length ∧ l = s.2.1 ++ s.1 ∧ ixOf p s.1 (s.2.1.length : Int) = ixOf p l 0) (fun s => s.1.length) (l, [], 0, none) rfl ⟨rfl, rfl, rfl⟩ ?_
  rintro ⟨suf, pre, i, j⟩ ⟨hi, hl', hx⟩ ih
  simp only at hi hl' hx ih
  have hi' : i = (pre.length : Int) := hi
  rw [← hi'] at hx
  cases j <;> cbv <;> (
    cases suf with
    | nil =>
      rw [F.lt_f hi la (by simp [hl'])]; cbv
      rw [← hr, ← hx]; rfl
    | cons x suf =>
      rw [F.lt_t hi la (by simp [hl'])]; cbv
      obtain ⟨e1, he1⟩ : ∃ y_, y_ = row fI x.body := ⟨_, rfl⟩
      obtain ⟨ix, hix⟩ : ∃ y_, y_ = pre.length * 2 := ⟨_, rfl⟩
      rw [show at' 2 ea i = some (ix, [.int .i64 x.tag, .row () e1]) by rw [hix, he1]; exact F.get hi hea hl' (fun _ => rfl) (by decide)]; cbv
      obtain ⟨v, hv⟩ : ∃ y_, y_ = p x := ⟨_, rfl⟩
      have c1 : o g [sExt x.tag e1 (.sp 0 1), ⟨.val, [⟨k0, .sh⟩]⟩] = some ⟨[B v], [], none⟩ := by rw [ho, hv, he1]; exact hp x (by rw [hl']; simp)
      rw [hg]; cbv
      rw [c1]; cbv
      have hx1 : ixOf p (x :: suf) i = if p x = true then i else ixOf p suf (i + 1) := rfl
      rw [hx1] at hx
      refine both (fun c => ?_) (fun c => ?_) <;> rw [c] <;> cbv
      · rw [← hv, if_pos c] at hx
        rw [← hr, ← hx]
      · rw [← hv, if_neg (by simp [c])] at hx
        refine ih (suf, pre ++ [x], add .i64 i 1, some i) ⟨at_len (F.inc hi (by simp [hl'] at hl; omega)) (by simp), by simp [hl'], ?_⟩ (by simp)
        rw [← hx, hi']
        simp)
theorem ok351_2 (g : Nat) (hg : md g = []) (k0 k1 : V) (p : Ext → Bool) (l : List Ext) (hl : l.length ≤ 1099511627776) (hp : ∀ x ∈ l, fix Tb md g [sExt x.tag (row fI x.body) (.sp 0 1), ⟨.val, [⟨k0, .sh⟩]⟩, ⟨.val, [⟨k1, .sh⟩]⟩] = some ⟨[B (p x)], [], none⟩) {f0 : Fl} (h0 : inFl f0 = true) :
    fix Tb md 351 [R (row fExt l) f0, ⟨.val, [⟨.fn g [k0, k1], .sh⟩]⟩] = some ⟨[I (ixOf p l 0)], [], none⟩ := by
  generalize hm : md = m at hg hp ⊢
  refine fix_fn (fn := ir351) tb_351 rfl rfl (by decide) rfl ?_; simp only [shutArgs, shutS, List.map_cons, List.map_nil, ir351, shut_in h0, List.head?_nil, reduceCtorEq, if_false, sExt, sHello, sAnswer, sEdit, sDeal, sBox, sDialed, sKnown]
  generalize hr : (⟨_, [], none⟩ : Ret) = r
  obtain ⟨ea, hea⟩ : ∃ y_, y_ = row fExt l := ⟨_, rfl⟩
  rw [← hea]
  intro add sub mul arith eq ne lt le gt ge neg conv mn mx not beq len at' ln bd cut app allS isNil mks set o hP F ho
  have la := F.len_at hea
  cbv
  refine loop_ind hP (σ := List Ext × List Ext × Int × Option Int) (fun s => match s.2.2.2 with | none => [(0, R ea .sh), (1, ⟨.val, [⟨.fn g [k0, k1], .sh⟩]⟩), (4, I 0), (7, I (len ea)), (8, I s.2.2.1)] | some j => [(0, R ea .sh), (1, ⟨.val, [⟨.fn g [k0, k1], .sh⟩]⟩), (4, I 0), (5, I j), (7, I (len ea)), (8, I s.2.2.1)])
    (fun s => At s.2.2.1 s.2.1.length ∧ l = s.2.1 ++ s.1 ∧ ixOf p s.1 (s.2.1.length : Int) = ixOf p l 0) (fun s => s.1.length) (l, [], 0, none) rfl ⟨rfl, rfl, rfl⟩ ?_
  rintro ⟨suf, pre, i, j⟩ ⟨hi, hl', hx⟩ ih
  simp only at hi hl' hx ih
  have hi' : i = (pre.length : Int) := hi
  rw [← hi'] at hx
  cases j <;> cbv <;> (
    cases suf with
    | nil =>
      rw [F.lt_f hi la (by simp [hl'])]; cbv
      rw [← hr, ← hx]; rfl
    | cons x suf =>
      rw [F.lt_t hi la (by simp [hl'])]; cbv
      obtain ⟨e1, he1⟩ : ∃ y_, y_ = row fI x.body := ⟨_, rfl⟩
      obtain ⟨ix, hix⟩ : ∃ y_, y_ = pre.length * 2 := ⟨_, rfl⟩
      rw [show at' 2 ea i = some (ix, [.int .i64 x.tag, .row () e1]) by rw [hix, he1]; exact F.get hi hea hl' (fun _ => rfl) (by decide)]; cbv
      obtain ⟨v, hv⟩ : ∃ y_, y_ = p x := ⟨_, rfl⟩
      have c1 : o g [sExt x.tag e1 (.sp 0 1), ⟨.val, [⟨k0, .sh⟩]⟩, ⟨.val, [⟨k1, .sh⟩]⟩] = some ⟨[B v], [], none⟩ := by rw [ho, hv, he1]; exact hp x (by rw [hl']; simp)
      rw [hg]; cbv
      rw [c1]; cbv
      have hx1 : ixOf p (x :: suf) i = if p x = true then i else ixOf p suf (i + 1) := rfl
      rw [hx1] at hx
      refine both (fun c => ?_) (fun c => ?_) <;> rw [c] <;> cbv
      · rw [← hv, if_pos c] at hx
        rw [← hr, ← hx]
      · rw [← hv, if_neg (by simp [c])] at hx
        refine ih (suf, pre ++ [x], add .i64 i 1, some i) ⟨at_len (F.inc hi (by simp [hl'] at hl; omega)) (by simp), by simp [hl'], ?_⟩ (by simp)
        rw [← hx, hi']
        simp)

/- impl.ExtOf$1 -/
theorem ok352 (e : Ext) (t : Int) {f0 : Fl} (h0 : inFl f0 = true) : fix Tb md 352 [sExt e.tag (row fI e.body) f0, ⟨.val, [⟨.ptr () [.int .i64 t], .sh⟩]⟩] = some ⟨[B (tagP t e)], [], none⟩ := by
  generalize hr : (⟨_, [], none⟩ : Ret) = r
  obtain ⟨ey, hey⟩ : ∃ y_, y_ = row fI e.body := ⟨_, rfl⟩
  rw [← hey]
  refine fix_fn2 (fn := ir352) tb_352 rfl rfl (by decide) rfl ?_; intro Q hQ; simp only [shutArgs, shutS, List.map_cons, List.map_nil, ir352, shut_in h0, List.head?_nil, reduceCtorEq, if_false, sExt, sHello, sAnswer, sEdit, sDeal, sBox, sDialed, sKnown]
  intro add sub mul arith eq ne lt le gt ge neg conv mn mx not beq len at' ln bd cut app allS isNil mks set o hP F ho
  cbv
  rw [hQ]; cbv
  rw [← hr, F.eq]; rfl

/- impl.ExtOf -/
theorem ok290 (l : List Ext) (t : Int) (hl : l.length ≤ 1099511627776) {f0 : Fl} (h0 : inFl f0 = true) : fix Tb md 290 [R (row fExt l) f0, I t] = some ⟨[I (extOf l t)], [], none⟩ := by
  obtain ⟨T, hT⟩ : ∃ y_, y_ = extOf l t := ⟨_, rfl⟩
  rw [← hT]
  generalize hr : (⟨_, [], none⟩ : Ret) = r
  obtain ⟨ea, hea⟩ : ∃ y_, y_ = row fExt l := ⟨_, rfl⟩
  rw [← hea]
  refine fix_fn2 (fn := ir290) tb_290 rfl rfl (by decide) rfl ?_; intro Q hQ; simp only [shutArgs, shutS, List.map_cons, List.map_nil, ir290, shut_in h0, List.head?_nil, reduceCtorEq, if_false, sExt, sHello, sAnswer, sEdit, sDeal, sBox, sDialed, sKnown]
  intro add sub mul arith eq ne lt le gt ge neg conv mn mx not beq len at' ln bd cut app allS isNil mks set o hP F ho
  have c1 : o 351 [R ea (.sp 0 0), ⟨.val, [⟨.fn 352 [.ptr () [.int .i64 t]], .sh⟩]⟩] = some ⟨[I T], [], none⟩ := by rw [ho, hT, hea]; exact ok351_1 352 rfl _ (tagP t) l hl (fun x _ => ok352 x t rfl) rfl
  cbv
  rw [c1]; cbv
  rw [hQ]; cbv
  exact congrArg some hr

/- impl.AreExts -/
theorem ok258 (l : List Ext) (hl : l.length ≤ 1099511627776) (w : ∀ y ∈ l, y.body.length ≤ 1099511627776) {f0 : Fl} (h0 : inFl f0 = true) : fix Tb md 258 [R (row fExt l) f0] = some ⟨[B (areEx l)], [], none⟩ := by
  obtain ⟨T, hT⟩ : ∃ y_, y_ = exOk [] l := ⟨_, rfl⟩
  rw [show areEx l = (T && decide (l.length ≤ 6)) by rw [hT]; rfl]
  generalize hr : (⟨_, [], none⟩ : Ret) = r
  obtain ⟨ea, hea⟩ : ∃ y_, y_ = row fExt l := ⟨_, rfl⟩
  rw [← hea]
  refine fix_fn2 (fn := ir258) tb_258 rfl rfl (by decide) rfl ?_; intro Q hQ; simp only [shutArgs, shutS, List.map_cons, List.map_nil, ir258, shut_in h0, List.head?_nil, reduceCtorEq, if_false, sExt, sHello, sAnswer, sEdit, sDeal, sBox, sDialed, sKnown]
  intro add sub mul arith eq ne lt le gt ge neg conv mn mx not beq len at' ln bd cut app allS isNil mks set o hP F ho
  have la := F.len_at hea
  have h6 : le (len ea) 6 = decide (l.length ≤ 6) := F.le_n la rfl
  cbv
  refine loop_ind2 hP (σ := List Ext × List Ext × Int × Option (Int × Int × List (List V))) (fun s => match s.2.2.2 with
      | none => [(0, R ea .sh), (2, B false), (5, R ea .sh), (6, I (len ea)), (7, I s.2.2.1)]
      | some j => [(0, R ea .sh), (2, B false), (3, I j.1), (4, ⟨.ptr 45 0, []⟩), (5, R ea .sh), (6, I (len ea)), (7, I s.2.2.1), (45, ⟨.box (), [⟨.int .i64 j.2.1, .sc⟩, ⟨.row () j.2.2, .sh⟩]⟩)]) (fun s => At s.2.2.1 s.2.1.length ∧ l = s.2.1 ++ s.1 ∧ exOk s.2.1 s.1 = T) (fun s => s.1.length) (l, [], 0, none) rfl ⟨rfl, rfl, hT.symm⟩ ?_
  intro c1 Q1 hc1 hQ1
  rintro ⟨suf, pre, i, j⟩ ⟨hi, hl', hb⟩ ih
  simp only at hi hl' hb ih
  cases j with
  | none =>
    cbv
    cases suf with
    | nil =>
      rw [F.lt_f hi la (by simp [hl'])]; cbv
      rw [hQ1]; cbv
      rw [hQ]; cbv
      rw [h6, ← hr, ← hb]; rfl
    | cons x suf =>
      obtain ⟨ix, hix⟩ : ∃ y_, y_ = pre.length * 2 := ⟨_, rfl⟩
      obtain ⟨e1, he1⟩ : ∃ y_, y_ = row fI x.body := ⟨_, rfl⟩
      have l1 := F.len_at he1
      have hx := w x (by rw [hl']; simp)
      have hpre : pre.length ≤ 1099511627776 := by rw [hl'] at hl; simp at hl; omega
      have p0 : at' 2 ea i = some (ix, [.int .i64 x.tag, .row () e1]) := by rw [hix, he1]; exact F.get hi hea hl' (fun _ => rfl) (by decide)
      obtain ⟨b1, hb1⟩ : ∃ y_, y_ = inR x.tag 0 255 := ⟨_, rfl⟩
      obtain ⟨b2, hb2⟩ : ∃ y_, y_ = decide (4 < x.body.length) := ⟨_, rfl⟩
      obtain ⟨b3, hb3⟩ : ∃ y_, y_ = bytes x.body := ⟨_, rfl⟩
      obtain ⟨b4, hb4⟩ : ∃ y_, y_ = pre.any (tagP x.tag) := ⟨_, rfl⟩
      obtain ⟨ep, hep⟩ : ∃ y_, y_ = row fExt pre := ⟨_, rfl⟩
      obtain ⟨v, hv⟩ : ∃ y_, y_ = extOf pre x.tag := ⟨_, rfl⟩
      have g4 : gt (len e1) 4 = b2 := by rw [hb2]; exact F.gt_n l1 rfl
      have c1 : o 232 [I x.tag, I 0, I 255] = some ⟨[B b1], [], none⟩ := by rw [ho, hb1]; exact ok232 ..
      have c3 : o 233 [R e1 (.sp 0 0), I 0, I 255] = some ⟨[B b3], [], none⟩ := by rw [ho, hb3, he1]; exact ok233 _ _ _ hx rfl
      have c4 : o 290 [R ep (.sp 0 0), I x.tag] = some ⟨[I v], [], none⟩ := by rw [ho, hv, hep]; exact ok290 _ _ hpre rfl
      have g5 : ge v 0 = b4 := by rw [F.ge, hv, hb4]; exact ixOf_ge (tagP x.tag) pre 0 (by decide)
      have hT' : T = (b1 && !b2 && b3 && !b4 && exOk (pre ++ [x]) suf) := by rw [← hb, hb1, hb2, hb3, hb4]; rfl
      obtain ⟨n, hn⟩ : ∃ y_, y_ = pre.length := ⟨_, rfl⟩
      have q1 : bd (ln ea) i = some n := by rw [F.ln' hea, hn]; exact F.bd' hi (by rw [hl']; simp)
      have q2 : cut 2 ea n 0 = some ep := by rw [F.cut' hea (fun _ => rfl), hep, hl', hn]; simp
      rw [F.lt_t hi la (by simp [hl'])]; cbv
      rw [p0]; cbv
      rw [c1]; cbv
      refine both (fun d1 => ?_) (fun d1 => ?_) <;> rw [d1] <;> cbv
      · rw [hQ1]; cbv
        rw [hQ]; cbv
        rw [← hr, show T = false by rw [hT', F.not_t d1]; rfl]; rfl
      rw [q1]; cbv
      rw [q2]; cbv
      rw [c4]; cbv
      rw [g5]; cbv
      refine both (fun d4 => ?_) (fun d4 => ?_) <;> rw [d4] <;> cbv
      · rw [hQ1]; cbv
        rw [hQ]; cbv
        rw [← hr, show T = false by rw [hT', d4]; simp]; rfl
      rw [g4]; cbv
      refine both (fun d2 => ?_) (fun d2 => ?_) <;> rw [d2] <;> cbv
      · rw [hQ1]; cbv
        rw [hQ]; cbv
        rw [← hr, show T = false by rw [hT', d2]; simp]; rfl
      rw [c3]; cbv
      refine both (fun d3 => ?_) (fun d3 => ?_) <;> rw [d3] <;> cbv
      · rw [hQ1]; cbv
        rw [hQ]; cbv
        rw [← hr, show T = false by rw [hT', F.not_t d3]; simp]; rfl
      refine ih (suf, pre ++ [x], add .i64 i 1, some (i, x.tag, e1)) ⟨at_len (F.inc hi (by omega)) (by simp), by simp [hl'], ?_⟩ (by simp)
      rw [hT', F.not_f d1, d2, F.not_f d3, d4]; simp
  | some jj =>
    obtain ⟨j3, j4, j5⟩ := jj
    cbv
    cases suf with
    | nil =>
      rw [F.lt_f hi la (by simp [hl'])]; cbv
      rw [hQ1]; cbv
      rw [hQ]; cbv
      rw [h6, ← hr, ← hb]; rfl
    | cons x suf =>
      obtain ⟨ix, hix⟩ : ∃ y_, y_ = pre.length * 2 := ⟨_, rfl⟩
      obtain ⟨e1, he1⟩ : ∃ y_, y_ = row fI x.body := ⟨_, rfl⟩
      have l1 := F.len_at he1
      have hx := w x (by rw [hl']; simp)
      have hpre : pre.length ≤ 1099511627776 := by rw [hl'] at hl; simp at hl; omega
      have p0 : at' 2 ea i = some (ix, [.int .i64 x.tag, .row () e1]) := by rw [hix, he1]; exact F.get hi hea hl' (fun _ => rfl) (by decide)
      obtain ⟨b1, hb1⟩ : ∃ y_, y_ = inR x.tag 0 255 := ⟨_, rfl⟩
      obtain ⟨b2, hb2⟩ : ∃ y_, y_ = decide (4 < x.body.length) := ⟨_, rfl⟩
      obtain ⟨b3, hb3⟩ : ∃ y_, y_ = bytes x.body := ⟨_, rfl⟩
      obtain ⟨b4, hb4⟩ : ∃ y_, y_ = pre.any (tagP x.tag) := ⟨_, rfl⟩
      obtain ⟨ep, hep⟩ : ∃ y_, y_ = row fExt pre := ⟨_, rfl⟩
      obtain ⟨v, hv⟩ : ∃ y_, y_ = extOf pre x.tag := ⟨_, rfl⟩
      have g4 : gt (len e1) 4 = b2 := by rw [hb2]; exact F.gt_n l1 rfl
      have c1 : o 232 [I x.tag, I 0, I 255] = some ⟨[B b1], [], none⟩ := by rw [ho, hb1]; exact ok232 ..
      have c3 : o 233 [R e1 (.sp 0 0), I 0, I 255] = some ⟨[B b3], [], none⟩ := by rw [ho, hb3, he1]; exact ok233 _ _ _ hx rfl
      have c4 : o 290 [R ep (.sp 0 0), I x.tag] = some ⟨[I v], [], none⟩ := by rw [ho, hv, hep]; exact ok290 _ _ hpre rfl
      have g5 : ge v 0 = b4 := by rw [F.ge, hv, hb4]; exact ixOf_ge (tagP x.tag) pre 0 (by decide)
      have hT' : T = (b1 && !b2 && b3 && !b4 && exOk (pre ++ [x]) suf) := by rw [← hb, hb1, hb2, hb3, hb4]; rfl
      obtain ⟨n, hn⟩ : ∃ y_, y_ = pre.length := ⟨_, rfl⟩
      have q1 : bd (ln ea) i = some n := by rw [F.ln' hea, hn]; exact F.bd' hi (by rw [hl']; simp)
      have q2 : cut 2 ea n 0 = some ep := by rw [F.cut' hea (fun _ => rfl), hep, hl', hn]; simp
      rw [F.lt_t hi la (by simp [hl'])]; cbv
      rw [p0]; cbv
      rw [c1]; cbv
      refine both (fun d1 => ?_) (fun d1 => ?_) <;> rw [d1] <;> cbv
      · rw [hQ1]; cbv
        rw [hQ]; cbv
        rw [← hr, show T = false by rw [hT', F.not_t d1]; rfl]; rfl
      rw [q1]; cbv
      rw [q2]; cbv
      rw [c4]; cbv
      rw [g5]; cbv
      refine both (fun d4 => ?_) (fun d4 => ?_) <;> rw [d4] <;> cbv
      · rw [hQ1]; cbv
        rw [hQ]; cbv
        rw [← hr, show T = false by rw [hT', d4]; simp]; rfl
      rw [g4]; cbv
      refine both (fun d2 => ?_) (fun d2 => ?_) <;> rw [d2] <;> cbv
      · rw [hQ1]; cbv
        rw [hQ]; cbv
        rw [← hr, show T = false by rw [hT', d2]; simp]; rfl
      rw [c3]; cbv
      refine both (fun d3 => ?_) (fun d3 => ?_) <;> rw [d3] <;> cbv
      · rw [hQ1]; cbv
        rw [hQ]; cbv
        rw [← hr, show T = false by rw [hT', F.not_t d3]; simp]; rfl
      refine ih (suf, pre ++ [x], add .i64 i 1, some (i, x.tag, e1)) ⟨at_len (F.inc hi (by omega)) (by simp), by simp [hl'], ?_⟩ (by simp)
      rw [hT', F.not_f d1, d2, F.not_f d3, d4]; simp

/- impl.IsHello -/
theorem ok113 (h : Hello) (hv : h.versions.length ≤ 1099511627776) (hl : h.exts.length ≤ 1099511627776) (w : ∀ y ∈ h.exts, y.body.length ≤ 1099511627776) {f0 f1 : Fl} (h0 : inFl f0 = true) (h1 : inFl f1 = true) : fix Tb md 113 [sHello (row fI h.versions) (row fExt h.exts) f0 f1] = some ⟨[B (isHel h)], [], none⟩ := by
  obtain ⟨a, ha⟩ : ∃ y_, y_ = areVer h.versions := ⟨_, rfl⟩
  obtain ⟨b, hb⟩ : ∃ y_, y_ = areEx h.exts := ⟨_, rfl⟩
  rw [show isHel h = (a && b) by rw [ha, hb]; rfl]
  generalize hr : (⟨_, [], none⟩ : Ret) = r
  obtain ⟨ea, hea⟩ : ∃ y_, y_ = row fI h.versions := ⟨_, rfl⟩
  obtain ⟨eb, heb⟩ : ∃ y_, y_ = row fExt h.exts := ⟨_, rfl⟩
  rw [← hea, ← heb]
  refine fix_fn2 (fn := ir113) tb_113 rfl rfl (by decide) rfl ?_; intro Q hQ; simp only [shutArgs, shutS, List.map_cons, List.map_nil, ir113, shut_in h0, shut_in h1, List.head?_nil, reduceCtorEq, if_false, sExt, sHello, sAnswer, sEdit, sDeal, sBox, sDialed, sKnown]
  intro add sub mul arith eq ne lt le gt ge neg conv mn mx not beq len at' ln bd cut app allS isNil mks set o hP F ho
  have c1 : o 255 [R ea (.sp 0 0)] = some ⟨[B a], [], none⟩ := by rw [ho, ha, hea]; exact ok255 _ hv rfl
  have c2 : o 258 [R eb (.sp 0 0)] = some ⟨[B b], [], none⟩ := by rw [ho, hb, heb]; exact ok258 _ hl w rfl
  cbv
  rw [c1]; cbv
  refine both (fun d1 => ?_) (fun d1 => ?_) <;> rw [d1] <;> cbv
  · rw [c2]; cbv
    rw [hQ]; cbv
    rw [← hr, d1]; rfl
  · rw [hQ]; cbv
    rw [← hr, d1]; rfl

/- impl.keptExts -/
def onTag (p : Int → Bool) (e : Ext) : Bool := p e.tag
theorem ok264_0 (g : Nat) (hg : md g = []) (p : Int → Bool) (l : List Ext) (hl : l.length ≤ 1073741824) (w : ∀ y ∈ l, y.body.length ≤ 1099511627776) (hp : ∀ x ∈ l, fix Tb md g [I x.tag] = some ⟨[B (p x.tag)], [], none⟩) {f0 : Fl} (h0 : inFl f0 = true) : fix Tb md 264 [R (row fExt l) f0, ⟨.val, [⟨.fn g [], .sh⟩]⟩] = some ⟨[R (row fExt (sel (onTag p) idE l)) (.ow false)], [], none⟩ := by
  generalize hm_ : md = m_ at hg hp ⊢
  obtain ⟨et, het⟩ : ∃ y_, y_ = row fExt (sel (onTag p) idE l) := ⟨_, rfl⟩
  rw [← het]
  generalize hr : (⟨_, [], none⟩ : Ret) = r
  obtain ⟨ea, hea⟩ : ∃ y_, y_ = row fExt l := ⟨_, rfl⟩
  rw [← hea]
  refine fix_fn2 (fn := ir264) tb_264 rfl rfl (by decide) rfl ?_; intro Q hQ; simp only [shutArgs, shutS, List.map_cons, List.map_nil, ir264, shut_in h0, List.head?_nil, reduceCtorEq, if_false, sExt, sHello, sAnswer, sEdit, sDeal, sBox, sDialed, sKnown]
  intro add sub mul arith eq ne lt le gt ge neg conv mn mx not beq len at' ln bd cut app allS isNil mks set o hP F ho
  have la := F.len_at hea
  cbv
  refine loop_ind2 hP (σ := List Ext × List Ext × List (List V) × Int × Option (Int × List (List V))) (fun s => match s.2.2.2.2 with | none => [(0, R ea .sh), (1, ⟨.val, [⟨.fn g [], .sh⟩]⟩), (4, R [] .nl), (5, R s.2.2.1 (.ow false)), (9, R ea .sh), (10, I (len ea)), (11, I s.2.2.2.1)] | some j => [(0, R ea .sh), (1, ⟨.val, [⟨.fn g [], .sh⟩]⟩), (4, R [] .nl), (5, R s.2.2.1 (.ow false)), (7, ⟨.ptr 38 0, []⟩), (9, R ea .sh), (10, I (len ea)), (11, I s.2.2.2.1), (38, ⟨.box (), [⟨.int .i64 j.1, .sc⟩, ⟨.row () j.2, .sh⟩]⟩)]) (fun s => At s.2.2.2.1 s.2.1.length ∧ l = s.2.1 ++ s.1 ∧ s.2.2.1 = row fExt (sel (onTag p) idE s.2.1)) (fun s => s.1.length) (l, [], [], 0, none) rfl ⟨rfl, rfl, rfl⟩ ?_
  intro c1 Q1 hc1 hQ1
  rintro ⟨suf, pre, eo, i, j⟩ ⟨hi, hl', hb⟩ ih
  simp only at hi hl' hb ih
  cases j with
  | none =>
    cbv
    cases suf with
    | nil =>
      rw [F.lt_f hi la (by simp [hl'])]; cbv
      rw [hQ1]; cbv
      rw [hQ]; cbv
      rw [← hr, het, hb, hl', List.append_nil]
    | cons x suf =>
      obtain ⟨ix, hix⟩ : ∃ y_, y_ = pre.length * 2 := ⟨_, rfl⟩
      have hpre : pre.length ≤ 1073741824 := by rw [hl'] at hl; simp at hl; omega
      have hs : (sel (onTag p) idE pre).length ≤ pre.length := sel_len
      have hi' : At (add .i64 i 1) (pre ++ [x]).length := at_len (F.inc hi (by omega)) (by simp)
      have hl2 : l = (pre ++ [x]) ++ suf := by rw [hl']; simp
      have hmem : x ∈ l := by rw [hl']; simp
      obtain ⟨e1, he1⟩ : ∃ y_, y_ = row fI x.body := ⟨_, rfl⟩
      have hx := w x hmem
      have p0 : at' 2 ea i = some (ix, [.int .i64 x.tag, .row () e1]) := by rw [hix, he1]; exact F.get hi hea hl' (fun _ => rfl) (by decide)
      obtain ⟨v, hv⟩ : ∃ y_, y_ = onTag p x := ⟨_, rfl⟩
      have c2 : o g [I x.tag] = some ⟨[B v], [], none⟩ := by rw [ho, hv]; exact hp x hmem
      rw [F.lt_t hi la (by simp [hl'])]; cbv
      rw [p0]; cbv
      rw [hg]; cbv
      rw [c2]; cbv
      refine both (fun d => ?_) (fun d => ?_) <;> rw [d] <;> cbv
      · rw [show allS e1 = true from F.scal he1 (fun _ => rfl)]; cbv
        rw [F.app_nil he1 (fun _ => rfl) hx]; cbv
        rw [show allS [[.int .i64 x.tag, .row () e1]] = false by rw [F.allS]; rfl]; cbv
        obtain ⟨eo', heo'⟩ : ∃ y_, y_ = row fExt (sel (onTag p) idE pre ++ [idE x]) := ⟨_, rfl⟩
        rw [show app 2 eo [[.int .i64 x.tag, .row () e1]] = some eo' by rw [heo', he1]; exact F.push hb (fun _ => rfl) rfl (by omega)]; cbv
        refine ih (suf, pre ++ [x], eo', add .i64 i 1, some (x.tag, e1)) ⟨hi', hl2, by simp only; rw [heo', sel_t (by rw [← hv, d])]⟩ (by simp)
      · refine ih (suf, pre ++ [x], eo, add .i64 i 1, some (x.tag, e1)) ⟨hi', hl2, by simp only; rw [hb, sel_f (by rw [← hv, d])]⟩ (by simp)
  | some jj =>
    obtain ⟨j1, j2⟩ := jj
    cbv
    cases suf with
    | nil =>
      rw [F.lt_f hi la (by simp [hl'])]; cbv
      rw [hQ1]; cbv
      rw [hQ]; cbv
      rw [← hr, het, hb, hl', List.append_nil]
    | cons x suf =>
      obtain ⟨ix, hix⟩ : ∃ y_, y_ = pre.length * 2 := ⟨_, rfl⟩
      have hpre : pre.length ≤ 1073741824 := by rw [hl'] at hl; simp at hl; omega
      have hs : (sel (onTag p) idE pre).length ≤ pre.length := sel_len
      have hi' : At (add .i64 i 1) (pre ++ [x]).length := at_len (F.inc hi (by omega)) (by simp)
      have hl2 : l = (pre ++ [x]) ++ suf := by rw [hl']; simp
      have hmem : x ∈ l := by rw [hl']; simp
      obtain ⟨e1, he1⟩ : ∃ y_, y_ = row fI x.body := ⟨_, rfl⟩
      have hx := w x hmem
      have p0 : at' 2 ea i = some (ix, [.int .i64 x.tag, .row () e1]) := by rw [hix, he1]; exact F.get hi hea hl' (fun _ => rfl) (by decide)
      obtain ⟨v, hv⟩ : ∃ y_, y_ = onTag p x := ⟨_, rfl⟩
      have c2 : o g [I x.tag] = some ⟨[B v], [], none⟩ := by rw [ho, hv]; exact hp x hmem
      rw [F.lt_t hi la (by simp [hl'])]; cbv
      rw [p0]; cbv
      rw [hg]; cbv
      rw [c2]; cbv
      refine both (fun d => ?_) (fun d => ?_) <;> rw [d] <;> cbv
      · rw [show allS e1 = true from F.scal he1 (fun _ => rfl)]; cbv
        rw [F.app_nil he1 (fun _ => rfl) hx]; cbv
        rw [show allS [[.int .i64 x.tag, .row () e1]] = false by rw [F.allS]; rfl]; cbv
        obtain ⟨eo', heo'⟩ : ∃ y_, y_ = row fExt (sel (onTag p) idE pre ++ [idE x]) := ⟨_, rfl⟩
        rw [show app 2 eo [[.int .i64 x.tag, .row () e1]] = some eo' by rw [heo', he1]; exact F.push hb (fun _ => rfl) rfl (by omega)]; cbv
        refine ih (suf, pre ++ [x], eo', add .i64 i 1, some (x.tag, e1)) ⟨hi', hl2, by simp only; rw [heo', sel_t (by rw [← hv, d])]⟩ (by simp)
      · refine ih (suf, pre ++ [x], eo, add .i64 i 1, some (x.tag, e1)) ⟨hi', hl2, by simp only; rw [hb, sel_f (by rw [← hv, d])]⟩ (by simp)
theorem ok264_1 (g : Nat) (hg : md g = []) (k0 : V) (p : Int → Bool) (l : List Ext) (hl : l.length ≤ 1073741824) (w : ∀ y ∈ l, y.body.length ≤ 1099511627776) (hp : ∀ x ∈ l, fix Tb md g [I x.tag, ⟨.val, [⟨k0, .sh⟩]⟩] = some ⟨[B (p x.tag)], [], none⟩) {f0 : Fl} (h0 : inFl f0 = true) : fix Tb md 264 [R (row fExt l) f0, ⟨.val, [⟨.fn g [k0], .sh⟩]⟩] = some ⟨[R (row fExt (sel (onTag p) idE l)) (.ow false)], [], none⟩ := by
  generalize hm_ : md = m_ at hg hp ⊢
  obtain ⟨et, het⟩ : ∃ y_, y_ = row fExt (sel (onTag p) idE l) := ⟨_, rfl⟩
  rw [← het]
  generalize hr : (⟨_, [], none⟩ : Ret) = r
  obtain ⟨ea, hea⟩ : ∃ y_, y_ = row fExt l := ⟨_, rfl⟩
  rw [← hea]
  refine fix_fn2 (fn := ir264) tb_264 rfl rfl (by decide) rfl ?_; intro Q hQ; simp only [shutArgs, shutS, List.map_cons, List.map_nil, ir264, shut_in h0, List.head?_nil, reduceCtorEq, if_false, sExt, sHello, sAnswer, sEdit, sDeal, sBox, sDialed, sKnown]
  intro add sub mul arith eq ne lt le gt ge neg conv mn mx not beq len at' ln bd cut app allS isNil mks set o hP F ho
  have la := F.len_at hea
  cbv
  refine loop_ind2 hP (σ := List Ext × List Ext × List (List V) × Int × Option (Int × List (List V))) (fun s => match s.2.2.2.2 with | none => [(0, R ea .sh), (1, ⟨.val, [⟨.fn g [k0], .sh⟩]⟩), (4, R [] .nl), (5, R s.2.2.1 (.ow false)), (9, R ea .sh), (10, I (len ea)), (11, I s.2.2.2.1)] | some j => [(0, R ea .sh), (1, ⟨.val, [⟨.fn g [k0], .sh⟩]⟩), (4, R [] .nl), (5, R s.2.2.1 (.ow false)), (7, ⟨.ptr 38 0, []⟩), (9, R ea .sh), (10, I (len ea)), (11, I s.2.2.2.1), (38, ⟨.box (), [⟨.int .i64 j.1, .sc⟩, ⟨.row () j.2, .sh⟩]⟩)]) (fun s => At s.2.2.2.1 s.2.1.length ∧ l = s.2.1 ++ s.1 ∧ s.2.2.1 = row fExt (sel (onTag p) idE s.2.1)) (fun s => s.1.length) (l, [], [], 0, none) rfl ⟨rfl, rfl, rfl⟩ ?_
  intro c1 Q1 hc1 hQ1
  rintro ⟨suf, pre, eo, i, j⟩ ⟨hi, hl', hb⟩ ih
  simp only at hi hl' hb ih
  cases j with
  | none =>
    cbv
    cases suf with
    | nil =>
      rw [F.lt_f hi la (by simp [hl'])]; cbv
      rw [hQ1]; cbv
      rw [hQ]; cbv
      rw [← hr, het, hb, hl', List.append_nil]
    | cons x suf =>
      obtain ⟨ix, hix⟩ : ∃ y_, y_ = pre.length * 2 := ⟨_, rfl⟩
      have hpre : pre.length ≤ 1073741824 := by rw [hl'] at hl; simp at hl; omega
      have hs : (sel (onTag p) idE pre).length ≤ pre.length := sel_len
      have hi' : At (add .i64 i 1) (pre ++ [x]).length := at_len (F.inc hi (by omega)) (by simp)
      have hl2 : l = (pre ++ [x]) ++ suf := by rw [hl']; simp
      have hmem : x ∈ l := by rw [hl']; simp
      obtain ⟨e1, he1⟩ : ∃ y_, y_ = row fI x.body := ⟨_, rfl⟩
      have hx := w x hmem
      have p0 : at' 2 ea i = some (ix, [.int .i64 x.tag, .row () e1]) := by rw [hix, he1]; exact F.get hi hea hl' (fun _ => rfl) (by decide)
      obtain ⟨v, hv⟩ : ∃ y_, y_ = onTag p x := ⟨_, rfl⟩
      have c2 : o g [I x.tag, ⟨.val, [⟨k0, .sh⟩]⟩] = some ⟨[B v], [], none⟩ := by rw [ho, hv]; exact hp x hmem
      rw [F.lt_t hi la (by simp [hl'])]; cbv
      rw [p0]; cbv
      rw [hg]; cbv
      rw [c2]; cbv
      refine both (fun d => ?_) (fun d => ?_) <;> rw [d] <;> cbv
      · rw [show allS e1 = true from F.scal he1 (fun _ => rfl)]; cbv
        rw [F.app_nil he1 (fun _ => rfl) hx]; cbv
        rw [show allS [[.int .i64 x.tag, .row () e1]] = false by rw [F.allS]; rfl]; cbv
        obtain ⟨eo', heo'⟩ : ∃ y_, y_ = row fExt (sel (onTag p) idE pre ++ [idE x]) := ⟨_, rfl⟩
        rw [show app 2 eo [[.int .i64 x.tag, .row () e1]] = some eo' by rw [heo', he1]; exact F.push hb (fun _ => rfl) rfl (by omega)]; cbv
        refine ih (suf, pre ++ [x], eo', add .i64 i 1, some (x.tag, e1)) ⟨hi', hl2, by simp only; rw [heo', sel_t (by rw [← hv, d])]⟩ (by simp)
      · refine ih (suf, pre ++ [x], eo, add .i64 i 1, some (x.tag, e1)) ⟨hi', hl2, by simp only; rw [hb, sel_f (by rw [← hv, d])]⟩ (by simp)
  | some jj =>
    obtain ⟨j1, j2⟩ := jj
    cbv
    cases suf with
    | nil =>
      rw [F.lt_f hi la (by simp [hl'])]; cbv
      rw [hQ1]; cbv
      rw [hQ]; cbv
      rw [← hr, het, hb, hl', List.append_nil]
    | cons x suf =>
      obtain ⟨ix, hix⟩ : ∃ y_, y_ = pre.length * 2 := ⟨_, rfl⟩
      have hpre : pre.length ≤ 1073741824 := by rw [hl'] at hl; simp at hl; omega
      have hs : (sel (onTag p) idE pre).length ≤ pre.length := sel_len
      have hi' : At (add .i64 i 1) (pre ++ [x]).length := at_len (F.inc hi (by omega)) (by simp)
      have hl2 : l = (pre ++ [x]) ++ suf := by rw [hl']; simp
      have hmem : x ∈ l := by rw [hl']; simp
      obtain ⟨e1, he1⟩ : ∃ y_, y_ = row fI x.body := ⟨_, rfl⟩
      have hx := w x hmem
      have p0 : at' 2 ea i = some (ix, [.int .i64 x.tag, .row () e1]) := by rw [hix, he1]; exact F.get hi hea hl' (fun _ => rfl) (by decide)
      obtain ⟨v, hv⟩ : ∃ y_, y_ = onTag p x := ⟨_, rfl⟩
      have c2 : o g [I x.tag, ⟨.val, [⟨k0, .sh⟩]⟩] = some ⟨[B v], [], none⟩ := by rw [ho, hv]; exact hp x hmem
      rw [F.lt_t hi la (by simp [hl'])]; cbv
      rw [p0]; cbv
      rw [hg]; cbv
      rw [c2]; cbv
      refine both (fun d => ?_) (fun d => ?_) <;> rw [d] <;> cbv
      · rw [show allS e1 = true from F.scal he1 (fun _ => rfl)]; cbv
        rw [F.app_nil he1 (fun _ => rfl) hx]; cbv
        rw [show allS [[.int .i64 x.tag, .row () e1]] = false by rw [F.allS]; rfl]; cbv
        obtain ⟨eo', heo'⟩ : ∃ y_, y_ = row fExt (sel (onTag p) idE pre ++ [idE x]) := ⟨_, rfl⟩
        rw [show app 2 eo [[.int .i64 x.tag, .row () e1]] = some eo' by rw [heo', he1]; exact F.push hb (fun _ => rfl) rfl (by omega)]; cbv
        refine ih (suf, pre ++ [x], eo', add .i64 i 1, some (x.tag, e1)) ⟨hi', hl2, by simp only; rw [heo', sel_t (by rw [← hv, d])]⟩ (by simp)
      · refine ih (suf, pre ++ [x], eo, add .i64 i 1, some (x.tag, e1)) ⟨hi', hl2, by simp only; rw [hb, sel_f (by rw [← hv, d])]⟩ (by simp)

/- slices.Index[[]int,int] -/
theorem hasI_ix (l : List Int) (n : Int) : decide (0 ≤ ixOf (fun y => decide (y = n)) l 0) = hasI l n := ixOf_ge _ l 0 (by decide)
theorem ok354 (l : List Int) (n : Int) (hl : l.length ≤ 1099511627776) {f0 : Fl} (h0 : inFl f0 = true) : fix Tb md 354 [R (row fI l) f0, I n] = some ⟨[I (ixOf (fun y => decide (y = n)) l 0)], [], none⟩ := by
  obtain ⟨T, hT⟩ : ∃ y_, y_ = ixOf (fun y => decide (y = n)) l 0 := ⟨_, rfl⟩
  rw [← hT]
  generalize hr : (⟨_, [], none⟩ : Ret) = r
  obtain ⟨ea, hea⟩ : ∃ y_, y_ = row fI l := ⟨_, rfl⟩
  rw [← hea]
  refine fix_fn2 (fn := ir354) tb_354 rfl rfl (by decide) rfl ?_; intro Q hQ; simp only [shutArgs, shutS, List.map_cons, List.map_nil, ir354, shut_in h0, List.head?_nil, reduceCtorEq, if_false, sExt, sHello, sAnswer, sEdit, sDeal, sBox, sDialed, sKnown]
  intro add sub mul arith eq ne lt le gt ge neg conv mn mx not beq len at' ln bd cut app allS isNil mks set o hP F ho
  have la := F.len_at hea
  cbv
  refine loop_ind2 hP (σ := List Int × List Int × Int × Option Int) (fun s => match s.2.2.2 with | none => [(0, R ea .sh), (1, I n), (4, I 0), (7, I (len ea)), (8, I s.2.2.1)] | some j => [(0, R ea .sh), (1, I n), (4, I 0), (5, I j), (7, I (len ea)), (8, I s.2.2.1)]) (fun s => At s.2.2.1 s.2.1.length ∧ l = s.2.1 ++ s.1 ∧ ixOf (fun y => decide (y = n)) s.1 s.2.2.1 = T) (fun s => s.1.length) (l, [], 0, none) rfl ⟨rfl, rfl, hT.symm⟩ ?_
  intro c1 Q1 hc1 hQ1
  rintro ⟨suf, pre, i, j⟩ ⟨hi, hl', hb⟩ ih
  simp only at hi hl' hb ih
  have hpre : pre.length ≤ 1099511627776 := by rw [hl'] at hl; simp at hl; omega
  cases j with
  | none =>
    cbv
    cases suf with
    | nil =>
      rw [F.lt_f hi la (by simp [hl'])]; cbv
      rw [hQ1]; cbv
      rw [hQ]; cbv
      rw [← hr, ← hb]; rfl
    | cons x suf =>
      obtain ⟨v, hv⟩ : ∃ y_, y_ = decide (x = n) := ⟨_, rfl⟩
      have hb' : T = if v = true then i else ixOf (fun y => decide (y = n)) suf (i + 1) := by rw [← hb, hv]; rfl
      have hinc : add .i64 i 1 = i + 1 := by unfold At at hi; rw [F.add, hi, wrap64 (by omega) (by omega)]
      obtain ⟨ix, hix⟩ : ∃ y_, y_ = pre.length * 1 := ⟨_, rfl⟩
      rw [F.lt_t hi la (by simp [hl'])]; cbv
      rw [show at' 1 ea i = some (ix, [.int .i64 x]) by rw [hix]; exact F.get hi hea hl' (fun _ => rfl) (by decide)]; cbv
      rw [show eq n x = v by rw [F.eq, hv]; exact decide_eq_decide.2 eq_comm]; cbv
      refine both (fun d => ?_) (fun d => ?_) <;> rw [d] <;> cbv
      · rw [hQ1]; cbv
        rw [hQ]; cbv
        rw [← hr, hb', if_pos d]
      · refine ih (suf, pre ++ [x], add .i64 i 1, some i) ⟨at_len (F.inc hi (by omega)) (by simp), by simp [hl'], ?_⟩ (by simp)
        rw [hb', if_neg (by rw [d]; decide), hinc]
  | some jj =>
    cbv
    cases suf with
    | nil =>
      rw [F.lt_f hi la (by simp [hl'])]; cbv
      rw [hQ1]; cbv
      rw [hQ]; cbv
      rw [← hr, ← hb]; rfl
    | cons x suf =>
      obtain ⟨v, hv⟩ : ∃ y_, y_ = decide (x = n) := ⟨_, rfl⟩
      have hb' : T = if v = true then i else ixOf (fun y => decide (y = n)) suf (i + 1) := by rw [← hb, hv]; rfl
      have hinc : add .i64 i 1 = i + 1 := by unfold At at hi; rw [F.add, hi, wrap64 (by omega) (by omega)]
      obtain ⟨ix, hix⟩ : ∃ y_, y_ = pre.length * 1 := ⟨_, rfl⟩
      rw [F.lt_t hi la (by simp [hl'])]; cbv
      rw [show at' 1 ea i = some (ix, [.int .i64 x]) by rw [hix]; exact F.get hi hea hl' (fun _ => rfl) (by decide)]; cbv
      rw [show eq n x = v by rw [F.eq, hv]; exact decide_eq_decide.2 eq_comm]; cbv
      refine both (fun d => ?_) (fun d => ?_) <;> rw [d] <;> cbv
      · rw [hQ1]; cbv
        rw [hQ]; cbv
        rw [← hr, hb', if_pos d]
      · refine ih (suf, pre ++ [x], add .i64 i 1, some i) ⟨at_len (F.inc hi (by omega)) (by simp), by simp [hl'], ?_⟩ (by simp)
        rw [hb', if_neg (by rw [d]; decide), hinc]

/- slices.Contains[[]int,int] -/
theorem ok302 (l : List Int) (n : Int) (hl : l.length ≤ 1099511627776) {f0 : Fl} (h0 : inFl f0 = true) : fix Tb md 302 [R (row fI l) f0, I n] = some ⟨[B (hasI l n)], [], none⟩ := by
  rw [← hasI_ix]
  obtain ⟨v, hv⟩ : ∃ y_, y_ = ixOf (fun y => decide (y = n)) l 0 := ⟨_, rfl⟩
  rw [← hv]
  generalize hr : (⟨_, [], none⟩ : Ret) = r
  obtain ⟨ea, hea⟩ : ∃ y_, y_ = row fI l := ⟨_, rfl⟩
  rw [← hea]
  refine fix_fn2 (fn := ir302) tb_302 rfl rfl (by decide) rfl ?_; intro Q hQ; simp only [shutArgs, shutS, List.map_cons, List.map_nil, ir302, shut_in h0, List.head?_nil, reduceCtorEq, if_false, sExt, sHello, sAnswer, sEdit, sDeal, sBox, sDialed, sKnown]
  intro add sub mul arith eq ne lt le gt ge neg conv mn mx not beq len at' ln bd cut app allS isNil mks set o hP F ho
  have c1 : o 354 [R ea (.sp 0 0), I n] = some ⟨[I v], [], none⟩ := by rw [ho, hv, hea]; exact ok354 _ _ hl rfl
  cbv
  rw [c1]; cbv
  rw [hQ]; cbv
  rw [← hr, F.ge]

/- impl.without -/
theorem ok287 (l b : List Int) (hl : l.length ≤ 1073741824) (hb' : b.length ≤ 1073741824) {f0 f1 : Fl} (h0 : inFl f0 = true) (h1 : inFl f1 = true) : fix Tb md 287 [R (row fI l) f0, R (row fI b) f1] = some ⟨[R (row fI (sel (notIn b) idI l)) (.ow false)], [], none⟩ := by
  obtain ⟨et, het⟩ : ∃ y_, y_ = row fI (sel (notIn b) idI l) := ⟨_, rfl⟩
  rw [← het]
  generalize hr : (⟨_, [], none⟩ : Ret) = r
  obtain ⟨ea, hea⟩ : ∃ y_, y_ = row fI l := ⟨_, rfl⟩
  obtain ⟨eb, heb⟩ : ∃ y_, y_ = row fI b := ⟨_, rfl⟩
  rw [← hea, ← heb]
  refine fix_fn2 (fn := ir287) tb_287 rfl rfl (by decide) rfl ?_; intro Q hQ; simp only [shutArgs, shutS, List.map_cons, List.map_nil, ir287, shut_in h0, shut_in h1, List.head?_nil, reduceCtorEq, if_false, sExt, sHello, sAnswer, sEdit, sDeal, sBox, sDialed, sKnown]
  intro add sub mul arith eq ne lt le gt ge neg conv mn mx not beq len at' ln bd cut app allS isNil mks set o hP F ho
  have la := F.len_at hea
  cbv
  refine loop_ind2 hP (σ := List Int × List Int × List (List V) × Int × Option (Int)) (fun s => match s.2.2.2.2 with | none => [(0, R ea .sh), (1, R eb .sh), (4, R [] .nl), (5, R s.2.2.1 (.ow false)), (9, R ea .sh), (10, I (len ea)), (11, I s.2.2.2.1)] | some j => [(0, R ea .sh), (1, R eb .sh), (4, R [] .nl), (5, R s.2.2.1 (.ow false)), (7, I j), (9, R ea .sh), (10, I (len ea)), (11, I s.2.2.2.1)]) (fun s => At s.2.2.2.1 s.2.1.length ∧ l = s.2.1 ++ s.1 ∧ s.2.2.1 = row fI (sel (notIn b) idI s.2.1)) (fun s => s.1.length) (l, [], [], 0, none) rfl ⟨rfl, rfl, rfl⟩ ?_
  intro c1 Q1 hc1 hQ1
  rintro ⟨suf, pre, eo, i, j⟩ ⟨hi, hl', hb⟩ ih
  simp only at hi hl' hb ih
  cases j with
  | none =>
    cbv
    cases suf with
    | nil =>
      rw [F.lt_f hi la (by simp [hl'])]; cbv
      rw [hQ1]; cbv
      rw [hQ]; cbv
      rw [← hr, het, hb, hl', List.append_nil]
    | cons x suf =>
      obtain ⟨ix, hix⟩ : ∃ y_, y_ = pre.length * 1 := ⟨_, rfl⟩
      have hpre : pre.length ≤ 1073741824 := by rw [hl'] at hl; simp at hl; omega
      have hs : (sel (notIn b) idI pre).length ≤ pre.length := sel_len
      have hi' : At (add .i64 i 1) (pre ++ [x]).length := at_len (F.inc hi (by omega)) (by simp)
      have hl2 : l = (pre ++ [x]) ++ suf := by rw [hl']; simp
      have hmem : x ∈ l := by rw [hl']; simp
      have p0 : at' 1 ea i = some (ix, [.int .i64 x]) := by rw [hix]; exact F.get hi hea hl' (fun _ => rfl) (by decide)
      obtain ⟨v, hv⟩ : ∃ y_, y_ = hasI b x := ⟨_, rfl⟩
      have hP : notIn b x = !v := by rw [hv]; rfl
      have c2 : o 302 [R eb (.sp 0 0), I x] = some ⟨[B v], [], none⟩ := by rw [ho, hv, heb]; exact ok302 _ _ (by omega) rfl
      rw [F.lt_t hi la (by simp [hl'])]; cbv
      rw [p0]; cbv
      rw [c2]; cbv
      refine both (fun d => ?_) (fun d => ?_) <;> rw [d] <;> cbv
      · rw [show allS [[.int .i64 x]] = true by rw [F.allS]; rfl]; cbv
        obtain ⟨eo', heo'⟩ : ∃ y_, y_ = row fI (sel (notIn b) idI pre ++ [idI x]) := ⟨_, rfl⟩
        rw [show app 1 eo [[.int .i64 x]] = some eo' by rw [heo']; exact F.push hb (fun _ => rfl) rfl (by omega)]; cbv
        refine ih (suf, pre ++ [x], eo', add .i64 i 1, some x) ⟨hi', hl2, by simp only; rw [heo', sel_t (by rw [hP, F.not_t d]; rfl)]⟩ (by simp)
      · refine ih (suf, pre ++ [x], eo, add .i64 i 1, some x) ⟨hi', hl2, by simp only; rw [hb, sel_f (by rw [hP, F.not_f d]; rfl)]⟩ (by simp)
  | some jj =>
    cbv
    cases suf with
    | nil =>
      rw [F.lt_f hi la (by simp [hl'])]; cbv
      rw [hQ1]; cbv
      rw [hQ]; cbv
      rw [← hr, het, hb, hl', List.append_nil]
    | cons x suf =>
      obtain ⟨ix, hix⟩ : ∃ y_, y_ = pre.length * 1 := ⟨_, rfl⟩
      have hpre : pre.length ≤ 1073741824 := by rw [hl'] at hl; simp at hl; omega
      have hs : (sel (notIn b) idI pre).length ≤ pre.length := sel_len
      have hi' : At (add .i64 i 1) (pre ++ [x]).length := at_len (F.inc hi (by omega)) (by simp)
      have hl2 : l = (pre ++ [x]) ++ suf := by rw [hl']; simp
      have hmem : x ∈ l := by rw [hl']; simp
      have p0 : at' 1 ea i = some (ix, [.int .i64 x]) := by rw [hix]; exact F.get hi hea hl' (fun _ => rfl) (by decide)
      obtain ⟨v, hv⟩ : ∃ y_, y_ = hasI b x := ⟨_, rfl⟩
      have hP : notIn b x = !v := by rw [hv]; rfl
      have c2 : o 302 [R eb (.sp 0 0), I x] = some ⟨[B v], [], none⟩ := by rw [ho, hv, heb]; exact ok302 _ _ (by omega) rfl
      rw [F.lt_t hi la (by simp [hl'])]; cbv
      rw [p0]; cbv
      rw [c2]; cbv
      refine both (fun d => ?_) (fun d => ?_) <;> rw [d] <;> cbv
      · rw [show allS [[.int .i64 x]] = true by rw [F.allS]; rfl]; cbv
        obtain ⟨eo', heo'⟩ : ∃ y_, y_ = row fI (sel (notIn b) idI pre ++ [idI x]) := ⟨_, rfl⟩
        rw [show app 1 eo [[.int .i64 x]] = some eo' by rw [heo']; exact F.push hb (fun _ => rfl) rfl (by omega)]; cbv
        refine ih (suf, pre ++ [x], eo', add .i64 i 1, some x) ⟨hi', hl2, by simp only; rw [heo', sel_t (by rw [hP, F.not_t d]; rfl)]⟩ (by simp)
      · refine ih (suf, pre ++ [x], eo, add .i64 i 1, some x) ⟨hi', hl2, by simp only; rw [hb, sel_f (by rw [hP, F.not_f d]; rfl)]⟩ (by simp)

/- impl.PartHello$1 -/
theorem ok305 (n : Int) (b : List Int) (hb : b.length ≤ 1099511627776) : fix Tb md 305 [I n, ⟨.val, [⟨.ptr () [.row () (row fI b)], .sh⟩]⟩] = some ⟨[B (!hasI b n)], [], none⟩ := by
  obtain ⟨v, hv⟩ : ∃ y_, y_ = hasI b n := ⟨_, rfl⟩
  rw [← hv]
  generalize hr : (⟨_, [], none⟩ : Ret) = r
  obtain ⟨eb, heb⟩ : ∃ y_, y_ = row fI b := ⟨_, rfl⟩
  rw [← heb]
  refine fix_fn2 (fn := ir305) tb_305 rfl rfl (by decide) rfl ?_; intro Q hQ; simp only [shutArgs, shutS, List.map_cons, List.map_nil, ir305, List.head?_nil, reduceCtorEq, if_false, sExt, sHello, sAnswer, sEdit, sDeal, sBox, sDialed, sKnown]
  intro add sub mul arith eq ne lt le gt ge neg conv mn mx not beq len at' ln bd cut app allS isNil mks set o hP F ho
  have c1 : o 302 [R eb (.sp 0 0), I n] = some ⟨[B v], [], none⟩ := by rw [ho, hv, heb]; exact ok302 _ _ hb rfl
  cbv
  rw [c1]; cbv
  rw [hQ]; cbv
  rw [← hr, F.not]

/- impl.PartHello -/
theorem ok165 (h : Hello) (lv tg : List Int) (mh : h.Mid) (a1 : lv.length ≤ 1073741824) (a2 : tg.length ≤ 1073741824) {f0 f1 f2 f3 : Fl} (q0 : inFl f0 = true) (q1 : inFl f1 = true) (q2 : inFl f2 = true) (q3 : inFl f3 = true) :
    fix Tb md 165 [sHello (row fI h.versions) (row fExt h.exts) f0 f1, R (row fI lv) f2, R (row fI tg) f3] = some ⟨[sHello (row fI (partV h lv tg).versions) (row fExt (partV h lv tg).exts) (.ow false) (.ow false), B (partOk h lv)], [], none⟩ ∨
    ((partV h lv tg).versions = [] ∧ (partV h lv tg).exts = [] ∧ fix Tb md 165 [sHello (row fI h.versions) (row fExt h.exts) f0 f1, R (row fI lv) f2, R (row fI tg) f3] = some ⟨[sHello [] [] .nl .nl, B (partOk h lv)], [], none⟩) := by
  have mh' := mh
  unfold Hello.Mid at mh'
  have hvl := mh'.1
  have hxl := mh'.2.1
  have wh : ∀ y ∈ h.exts, y.body.length ≤ 1099511627776 := fun y hy => Nat.le_trans (show y.body.length ≤ 1073741824 from mh'.2.2 y hy) (by decide)
  obtain ⟨W, hW⟩ : ∃ y_, y_ = sel (notIn lv) idI h.versions := ⟨_, rfl⟩
  obtain ⟨Z, hZ⟩ : ∃ y_, y_ = sel (notTagIn tg) idE h.exts := ⟨_, rfl⟩
  have hWl : W.length ≤ 1073741824 := by rw [hW]; exact Nat.le_trans sel_len hvl
  obtain ⟨u, hu⟩ : ∃ y_, y_ = isHel h := ⟨_, rfl⟩
  obtain ⟨z, hz⟩ : ∃ y_, y_ = decide (W.length = 0) := ⟨_, rfl⟩
  suffices hmain : ∀ r, (u = true → z = false → (⟨[sHello (row fI W) (row fExt Z) (.ow false) (.ow false), B true], [], none⟩ : Ret) = r) → (u = false ∨ z = true → (⟨[sHello [] [] .nl .nl, B false], [], none⟩ : Ret) = r) → fix Tb md 165 [sHello (row fI h.versions) (row fExt h.exts) f0 f1, R (row fI lv) f2, R (row fI tg) f3] = some r by
    have ho : partOk h lv = (u && !z) := by rw [hu, hz, hW]; rfl
    cases hk : (u && !z) with
    | false =>
      rw [hk] at ho
      have hp : partV h lv tg = ⟨[], []⟩ := by rw [partV, ho]; rfl
      rw [hp, ho]
      refine .inr ⟨rfl, rfl, hmain _ (fun q1 q2 => ?_) (fun _ => rfl)⟩
      rw [q1, q2] at hk; exact Bool.noConfusion hk
    | true =>
      rw [hk] at ho
      have hp : partV h lv tg = ⟨W, Z⟩ := by rw [partV, ho, if_pos rfl, hW, hZ]
      rw [hp, ho]
      refine .inl (hmain _ (fun _ _ => rfl) (fun q => ?_))
      rcases q with q | q
      · rw [q] at hk; exact Bool.noConfusion hk
      · rw [q] at hk; simp at hk
  intro r rA rC
  obtain ⟨dv, hdv⟩ : ∃ y_, y_ = row fI h.versions := ⟨_, rfl⟩
  obtain ⟨dx, hdx⟩ : ∃ y_, y_ = row fExt h.exts := ⟨_, rfl⟩
  obtain ⟨el, hel⟩ : ∃ y_, y_ = row fI lv := ⟨_, rfl⟩
  obtain ⟨et, het⟩ : ∃ y_, y_ = row fI tg := ⟨_, rfl⟩
  rw [← hdv, ← hdx, ← hel, ← het]
  obtain ⟨ew, hew⟩ : ∃ y_, y_ = row fI W := ⟨_, rfl⟩
  obtain ⟨ez, hez⟩ : ∃ y_, y_ = row fExt Z := ⟨_, rfl⟩
  rw [← hew, ← hez] at rA
  refine fix_fn2 (fn := ir165) tb_165 rfl rfl (by decide) rfl ?_; intro Q hQ; simp only [shutArgs, shutS, List.map_cons, List.map_nil, ir165, shut_in q0, shut_in q1, shut_in q2, shut_in q3, List.head?_nil, reduceCtorEq, if_false, sExt, sHello, sAnswer, sEdit, sDeal, sBox, sDialed, sKnown]
  intro add sub mul arith eq ne lt le gt ge neg conv mn mx not beq len at' ln bd cut app allS isNil mks set o hP F ho
  have lw := F.len_at hew
  have c1 : o 287 [R dv (.sp 0 0), R el (.sp 1 0)] = some ⟨[R ew (.ow false)], [], none⟩ := by rw [ho, hew, hW, hdv, hel]; exact ok287 _ _ hvl a1 rfl rfl
  have c2 : o 113 [sHello dv dx (.sp 0 0) (.sp 0 1)] = some ⟨[B u], [], none⟩ := by rw [ho, hu, hdv, hdx]; exact ok113 _ (by omega) (by omega) wh rfl rfl
  have c3 : o 264 [R dx (.sp 0 0), ⟨.val, [⟨.fn 305 [.ptr () [.row () et]], .sh⟩]⟩] = some ⟨[R ez (.ow false)], [], none⟩ := by
    rw [ho, hez, hZ, hdx, het]
    exact ok264_1 305 rfl _ (fun n => !hasI tg n) h.exts hxl wh (fun x _ => ok305 x.tag tg (by omega)) rfl
  have g1 : eq (len ew) 0 = z := by rw [F.eq_n lw (k := 0) (m := 0) rfl, hz]
  cbv
  rw [c1]; cbv
  rw [c2]; cbv
  refine both (fun d1 => ?_) (fun d1 => ?_) <;> rw [d1] <;> cbv
  · rw [hQ]; cbv
    exact congrArg some (rC (.inl (F.not_t d1)))
  rw [g1]; cbv
  refine both (fun d2 => ?_) (fun d2 => ?_) <;> rw [d2] <;> cbv
  · rw [hQ]; cbv
    exact congrArg some (rC (.inr d2))
  rw [c3]; cbv
  rw [hQ]; cbv
  exact congrArg some (rA (F.not_f d1) d2)

/- laws.toIntS -/
theorem ok76 (l : List Int) (hl : l.length ≤ 1099511627776) {f0 : Fl} (h0 : inFl f0 = true) : fix Tb md 76 [R (row fI l) f0] = some ⟨[R (row fI l) (.ow false)], [], none⟩ := by
  refine fix_fn (fn := ir76) tb_76 rfl rfl (by decide) rfl ?_; simp only [shutArgs, shutS, List.map_cons, List.map_nil, ir76, shut_in h0, List.head?_nil, reduceCtorEq, if_false, sExt, sHello, sAnswer, sEdit, sDeal, sBox, sDialed, sKnown]
  generalize hr : (⟨_, [], none⟩ : Ret) = r
  obtain ⟨e1, he1⟩ : ∃ y_, y_ = row fI l := ⟨_, rfl⟩
  rw [← he1] at hr ⊢
  intro add sub mul arith eq ne lt le gt ge neg conv mn mx not beq len at' ln bd cut app allS isNil mks set o hP F ho
  have la := F.len_at he1
  cbv
  obtain ⟨e2, he2⟩ : ∃ y_, y_ = row fI (List.replicate l.length 0) := ⟨_, rfl⟩
  rw [show mks [.int .i64 0] (len e1) (len e1) = some e2 by rw [F.mks, show len e1 = _ from la, he2]; exact row_mk (f := fI) (a := 0) rfl (by simp [fI]) hl]; cbv
  refine loop_ind hP (σ := List Int × List Int × List (List V) × Int) (fun s => [(0, R e1 .sh), (2, R [] .nl), (3, R s.2.2.1 (.ow false)), (4, I s.2.2.2)])
    (fun s => At s.2.2.2 s.2.1.length ∧ l = s.2.1 ++ s.1 ∧ s.2.2.1 = row fI (s.2.1 ++ List.replicate s.1.length 0)) (fun s => s.1.length) (l, [], e2, 0) rfl ⟨rfl, rfl, by simpa using he2⟩ ?_
  rintro ⟨suf, pre, eo, i⟩ ⟨hi, hl', heo⟩ ih
  simp only at hi hl' heo ih
  cbv
  cases suf with
  | nil =>
    rw [F.lt_f hi la (by simp [hl'])]; cbv
    rw [← hr, heo, he1, hl']; simp
  | cons x suf =>
    rw [F.lt_t hi la (by simp [hl'])]; cbv
    obtain ⟨ix, hix⟩ : ∃ y_, y_ = pre.length * 1 := ⟨_, rfl⟩
    rw [show at' 1 e1 i = some (ix, [.int .i64 x]) by rw [hix]; exact F.get hi he1 hl' (fun _ => rfl) (by decide)]; cbv
    rw [show at' 1 eo i = some (ix, [.int .i64 0]) by rw [hix]; exact F.get hi heo rfl (fun _ => rfl) (by decide)]; cbv
    obtain ⟨eo', heo'⟩ : ∃ y_, y_ = row fI (pre ++ x :: List.replicate suf.length 0) := ⟨_, rfl⟩
    rw [show set eo ix [.int .i64 x] = some eo' by rw [F.set, heo, hix, heo']; exact set_one (fun _ => rfl) rfl]; cbv
    refine ih (suf, pre ++ [x], eo', add .i64 i 1) ⟨at_len (F.inc hi (by simp [hl'] at hl; omega)) (by simp), by simp [hl'], by simp [heo']⟩ (by simp)

/- laws.eqIntS -/
theorem ok79 (a b : List Int) (hl : a.length ≤ 1099511627776) {f0 f1 : Fl} (h0 : inFl f0 = true) (h1 : inFl f1 = true) : fix Tb md 79 [R (row fI a) f0, R (row fI b) f1] = some ⟨[B (decide (a = b))], [], none⟩ := by
  refine fix_fn (fn := ir79) tb_79 rfl rfl (by decide) rfl ?_; simp only [shutArgs, shutS, List.map_cons, List.map_nil, ir79, shut_in h0, shut_in h1, List.head?_nil, reduceCtorEq, if_false, sExt, sHello, sAnswer, sEdit, sDeal, sBox, sDialed, sKnown]
  generalize hr : (⟨_, [], none⟩ : Ret) = r
  obtain ⟨ea, hea⟩ : ∃ y_, y_ = row fI a := ⟨_, rfl⟩
  obtain ⟨eb, heb⟩ : ∃ y_, y_ = row fI b := ⟨_, rfl⟩
  rw [← hea, ← heb]
  intro add sub mul arith eq ne lt le gt ge neg conv mn mx not beq len at' ln bd cut app allS isNil mks set o hP F ho
  have la := F.len_at hea
  have lb := F.len_at heb
  cbv
  by_cases hab : a.length = b.length
  · rw [F.ne_f (by unfold At at la lb; omega)]; cbv
    refine loop_ind hP (σ := List Int × List Int × List Int × Int) (fun s => [(0, R ea .sh), (1, R eb .sh), (4, B false), (5, I s.2.2.2)]) (fun s => At s.2.2.2 s.1.length ∧ a = s.1 ++ s.2.1 ∧ b = s.1 ++ s.2.2.1) (fun s => s.2.1.length) ([], a, b, 0) rfl ⟨rfl, rfl, rfl⟩ ?_
    rintro ⟨pre, sa, sb, i⟩ ⟨hi, ha, hb⟩ ih
    simp only at hi ha hb ih
    cbv
    have hlen : sa.length = sb.length := by simp [ha, hb] at hab; exact hab
    match sa, sb, hlen, ha, hb with
    | [], [], _, ha, hb =>
      rw [F.lt_f hi la (by simp [ha])]; cbv
      rw [← hr]; simp [ha, hb]
    | x :: sa, y :: sb, _, ha, hb =>
      rw [F.lt_t hi la (by simp [ha])]; cbv
      obtain ⟨ix, hix⟩ : ∃ y_, y_ = pre.length * 1 := ⟨_, rfl⟩
      rw [show at' 1 ea i = some (ix, [.int .i64 x]) by rw [hix]; exact F.get hi hea ha (fun _ => rfl) (by decide)]; cbv
      rw [show at' 1 eb i = some (ix, [.int .i64 y]) by rw [hix]; exact F.get hi heb hb (fun _ => rfl) (by decide)]; cbv
      by_cases hxy : x = y
      · rw [F.ne_f hxy]; cbv
        refine ih (pre ++ [x], sa, sb, add .i64 i 1) ⟨at_len (F.inc hi (by simp [ha] at hl; omega)) (by simp), by simp [ha], by simp [hb, hxy]⟩ (by simp)
      · rw [F.ne_t hxy]; cbv
        rw [← hr]; simp [ha, hb, hxy]
  · rw [F.ne_t (by unfold At at la lb; omega)]; cbv
    rw [← hr]
    simp
    intro e; exact hab (by rw [e])
theorem ok79t (a : List Int) (hl : a.length ≤ 1099511627776) {f0 f1 : Fl} (h0 : inFl f0 = true) (h1 : inFl f1 = true) : fix Tb md 79 [R (row fI a) f0, R (row fI a) f1] = some ⟨[B true], [], none⟩ := by simpa using ok79 a a hl h0 h1

/- laws.eqExt -/
theorem ok321 (x : Ext) (w : x.Mid) {f0 : Fl} (q0 : inFl f0 = true) {g0 : Fl} (p0 : inFl g0 = true) :
    fix Tb md 321 [sExt x.tag (row fI x.body) f0, sExt x.tag (row fI x.body) g0] = some ⟨[B true], [], none⟩ := by
  refine fix_fn (fn := ir321) tb_321 rfl rfl (by decide) rfl ?_; simp only [shutArgs, shutS, List.map_cons, List.map_nil, ir321, shut_in q0, shut_in p0, List.head?_nil, reduceCtorEq, if_false, sExt, sHello, sAnswer, sEdit, sDeal, sBox, sDialed, sKnown]
  generalize hr : (⟨_, [], none⟩ : Ret) = r
  obtain ⟨e1, he1⟩ : ∃ y_, y_ = row fI x.body := ⟨_, rfl⟩
  rw [← he1]
  unfold Ext.Mid at w
  intro add sub mul arith eq ne lt le gt ge neg conv mn mx not beq len at' ln bd cut app allS isNil mks set o hP F ho
  have c1 : o 79 [R e1 (.sp 0 0), R e1 (.sp 1 0)] = some ⟨[B true], [], none⟩ := by rw [ho, he1]; exact ok79t _ (by have := w; omega) rfl rfl
  cbv
  rw [F.ne_f rfl]; cbv
  rw [c1]; cbv
  rw [show not true = false by rw [F.not]; rfl]; cbv
  exact congrArg some hr

/- laws.eqExtS -/
theorem ok200 (l : List (Ext)) (w : l.length ≤ 1073741824 ∧ ∀ y ∈ l, y.Mid) {f0 f1 : Fl} (q0 : inFl f0 = true) (q1 : inFl f1 = true) :
    fix Tb md 200 [R (row fExt l) f0, R (row fExt l) f1] = some ⟨[B true], [], none⟩ := by
  have w1 := w.1
  refine fix_fn (fn := ir200) tb_200 rfl rfl (by decide) rfl ?_; simp only [shutArgs, shutS, List.map_cons, List.map_nil, ir200, shut_in q0, shut_in q1, List.head?_nil, reduceCtorEq, if_false, sExt, sHello, sAnswer, sEdit, sDeal, sBox, sDialed, sKnown]
  generalize hr : (⟨_, [], none⟩ : Ret) = r
  obtain ⟨ea, hea⟩ : ∃ y_, y_ = row fExt l := ⟨_, rfl⟩
  rw [← hea]
  intro add sub mul arith eq ne lt le gt ge neg conv mn mx not beq len at' ln bd cut app allS isNil mks set o hP F ho
  have la := F.len_at hea
  cbv
  rw [F.ne_f rfl]; cbv
  refine loop_ind hP (σ := List (Ext) × List (Ext) × Int) (fun s => [(0, R ea .sh), (1, R ea .sh), (4, B false), (5, I s.2.2)])
    (fun s => At s.2.2 s.2.1.length ∧ l = s.2.1 ++ s.1) (fun s => s.1.length) (l, [], 0) rfl ⟨rfl, rfl⟩ ?_
  rintro ⟨suf, pre, i⟩ ⟨hi, hl'⟩ ih
  simp only at hi hl' ih
  cbv
  cases suf with
  | nil =>
    rw [F.lt_f hi la (by simp [hl'])]; cbv
    exact congrArg some hr
  | cons x suf =>
    rw [F.lt_t hi la (by simp [hl'])]; cbv
    obtain ⟨e1, he1⟩ : ∃ y_, y_ = row fI x.body := ⟨_, rfl⟩
    obtain ⟨ix, hix⟩ : ∃ y_, y_ = pre.length * 2 := ⟨_, rfl⟩
    have a1 : at' 2 ea i = some (ix, [.int .i64 x.tag, .row () e1]) := by rw [hix, he1]; exact F.get hi hea hl' (fun _ => rfl) (by decide)
    rw [a1]; cbv
    try (rw [a1]; cbv)
    have c1 : o 321 [sExt x.tag e1 (.sp 0 1), sExt x.tag e1 (.sp 1 1)] = some ⟨[B true], [], none⟩ := by rw [ho, he1]; exact ok321 x (w.2 x (by rw [hl']; simp)) rfl rfl
    rw [c1]; cbv
    rw [show not true = false by rw [F.not]; rfl]; cbv
    refine ih (suf, pre ++ [x], add .i64 i 1) ⟨at_len (F.inc hi (by simp [hl'] at w1; omega)) (by simp), by simp [hl']⟩ (by simp)

/- laws.eqHello -/
theorem ok78 (x : Hello) (w : x.Mid) {f0 f1 : Fl} (q0 : inFl f0 = true) (q1 : inFl f1 = true) {g0 g1 : Fl} (p0 : inFl g0 = true) (p1 : inFl g1 = true) :
    fix Tb md 78 [sHello (row fI x.versions) (row fExt x.exts) f0 f1, sHello (row fI x.versions) (row fExt x.exts) g0 g1] = some ⟨[B true], [], none⟩ := by
  refine fix_fn (fn := ir78) tb_78 rfl rfl (by decide) rfl ?_; simp only [shutArgs, shutS, List.map_cons, List.map_nil, ir78, shut_in q0, shut_in q1, shut_in p0, shut_in p1, List.head?_nil, reduceCtorEq, if_false, sExt, sHello, sAnswer, sEdit, sDeal, sBox, sDialed, sKnown]
  generalize hr : (⟨_, [], none⟩ : Ret) = r
  obtain ⟨e1, he1⟩ : ∃ y_, y_ = row fI x.versions := ⟨_, rfl⟩
  obtain ⟨e2, he2⟩ : ∃ y_, y_ = row fExt x.exts := ⟨_, rfl⟩
  rw [← he1, ← he2]
  unfold Hello.Mid at w
  intro add sub mul arith eq ne lt le gt ge neg conv mn mx not beq len at' ln bd cut app allS isNil mks set o hP F ho
  have c1 : o 79 [R e1 (.sp 0 0), R e1 (.sp 1 0)] = some ⟨[B true], [], none⟩ := by rw [ho, he1]; exact ok79t _ (by have := w.1; omega) rfl rfl
  have c2 : o 200 [R e2 (.sp 0 0), R e2 (.sp 1 0)] = some ⟨[B true], [], none⟩ := by rw [ho, he2]; exact ok200 _ w.2 rfl rfl
  cbv
  rw [c1]; cbv
  rw [show not true = false by rw [F.not]; rfl]; cbv
  rw [c2]; cbv
  rw [show not true = false by rw [F.not]; rfl]; cbv
  exact congrArg some hr

/- laws.heldIntS -/
theorem ok125 (l : List Int) (k : Int) (hk : Lim k l.length) (hl : l.length ≤ 1099511627776) {f0 : Fl} (h0 : inFl f0 = true) : fix Tb md 125 [R (row fI (mI l k)) f0, I k] = some ⟨[I (k + (l.length : Int))], [], none⟩ := by
  obtain ⟨t, ht⟩ : ∃ y_, y_ = k + (l.length : Int) := ⟨_, rfl⟩
  have hT : AtK t k l.length := ht
  rw [← ht]
  clear ht
  refine fix_fn (fn := ir125) tb_125 rfl rfl (by decide) rfl ?_; simp only [shutArgs, shutS, List.map_cons, List.map_nil, ir125, shut_in h0, List.head?_nil, reduceCtorEq, if_false, sExt, sHello, sAnswer, sEdit, sDeal, sBox, sDialed, sKnown]
  generalize hr : (⟨_, [], none⟩ : Ret) = r
  obtain ⟨ea, hea⟩ : ∃ y_, y_ = row fI (mI l k) := ⟨_, rfl⟩
  rw [← hea]
  intro add sub mul arith eq ne lt le gt ge neg conv mn mx not beq len at' ln bd cut app allS isNil mks set o hP F ho
  have la := F.len_at hea
  cbv
  refine loop_ind hP (σ := List Int × List Int × Int × Int) (fun s => [(0, R ea .sh), (1, I s.2.2.1), (4, I 0), (5, I s.2.2.2)])
    (fun s => At s.2.2.2 s.2.1.length ∧ AtK s.2.2.1 k s.2.1.length ∧ l = s.2.1 ++ s.1) (fun s => s.1.length) (l, [], k, 0) rfl ⟨rfl, AtK.zero, rfl⟩ ?_
  rintro ⟨suf, pre, x, i⟩ ⟨hi, hx, hl'⟩ ih
  simp only at hi hx hl' ih
  cbv
  cases suf with
  | nil =>
    rw [F.lt_f hi la (by rw [mI_len, hl']; simp)]; cbv
    rw [← hr, show x = t by rw [hx.same, hT.same, hl']; simp]
  | cons y suf =>
    have hl3 : pre.length + 1 ≤ l.length := by rw [hl']; simp
    have a1 : add .i64 x 1 = x + 1 := by rw [F.add, hx.inc hk (by omega)]
    have hm : mI l k = mI pre k ++ x :: mI suf (x + 1) := by rw [hl', mI_app pre _ k x hx]; rfl
    rw [F.lt_t hi la (by rw [mI_len, hl']; simp)]; cbv
    obtain ⟨ix, hix⟩ : ∃ y_, y_ = pre.length * 1 := ⟨_, rfl⟩
    rw [show at' 1 ea i = some (ix, [.int .i64 x]) by rw [hix]; have h := F.get (f := fI) (k := 1) (show At i (mI pre k).length by rw [mI_len]; exact hi) hea hm (fun _ => rfl) (by decide); rw [mI_len] at h; exact h]; cbv
    rw [F.ne_f rfl]; cbv
    rw [a1]
    refine ih (suf, pre ++ [y], x + 1, add .i64 i 1) ⟨at_len (F.inc hi (by omega)) (by simp), hx.one.eq (by simp), by simp [hl']⟩ (by simp)

/- laws.heldExtS -/
set_option maxHeartbeats 2000000 in
theorem ok236 (l : List Ext) (k : Int) (hk : Lim k (cExtS l)) (hl : l.length ≤ 1099511627776) (w0 : ∀ y ∈ l, y.body.length ≤ 1099511627776) {f0 : Fl} (h0 : inFl f0 = true) : fix Tb md 236 [R (row fExt (mExtS l k)) f0, I k] = some ⟨[I (k + (cExtS l : Int))], [], none⟩ := by
  obtain ⟨t, ht⟩ : ∃ y_, y_ = k + (cExtS l : Int) := ⟨_, rfl⟩
  have hT : AtK t k (cExtS l) := ht
  rw [← ht]
  clear ht
  refine fix_fn (fn := ir236) tb_236 rfl rfl (by decide) rfl ?_; simp only [shutArgs, shutS, List.map_cons, List.map_nil, ir236, shut_in h0, List.head?_nil, reduceCtorEq, if_false, sExt, sHello, sAnswer, sEdit, sDeal, sBox, sDialed, sKnown]
  generalize hr : (⟨_, [], none⟩ : Ret) = r
  obtain ⟨ea, hea⟩ : ∃ y_, y_ = row fExt (mExtS l k) := ⟨_, rfl⟩
  rw [← hea]
  intro add sub mul arith eq ne lt le gt ge neg conv mn mx not beq len at' ln bd cut app allS isNil mks set o hP F ho
  have la := F.len_at hea
  cbv
  refine loop_ind hP (σ := List Ext × List Ext × Int × Int) (fun s => [(0, R ea .sh), (1, I s.2.2.1), (4, I 0), (5, I s.2.2.2)])
    (fun s => At s.2.2.2 s.2.1.length ∧ AtK s.2.2.1 k (cExtS s.2.1) ∧ l = s.2.1 ++ s.1) (fun s => s.1.length) (l, [], k, 0) rfl ⟨rfl, AtK.zero, rfl⟩ ?_
  rintro ⟨suf, pre, z0, i⟩ ⟨hi, a0, hl'⟩ ih
  simp only at hi a0 hl' ih
  cbv
  cases suf with
  | nil =>
    rw [F.lt_f hi la (by rw [mExtS_len, hl']; simp)]; cbv
    rw [← hr, show z0 = t by rw [a0.same, hT.same, hl']; simp]
  | cons x suf =>
    have hl3 : pre.length + 1 ≤ l.length := by rw [hl']; simp
    have hc : cExtS l = cExtS pre + (cExt x + cExtS suf) := by rw [hl']; simp [cExtS]
    have hcx : cExt x = 1 + x.body.length := rfl
    obtain ⟨z1, hz1⟩ : ∃ y_, y_ = z0 + 1 := ⟨_, rfl⟩
    have a1 : AtK z1 k (cExtS pre + 1) := hz1 ▸ a0.one
    have s1 : add .i64 z0 1 = z1 := by rw [F.add, a0.inc hk (by omega), hz1]
    obtain ⟨z2, hz2⟩ : ∃ y_, y_ = z1 + (x.body.length : Int) := ⟨_, rfl⟩
    have a2 : AtK z2 k (cExtS pre + 1 + x.body.length) := hz2 ▸ a1.plus
    have m2 : Lim z1 x.body.length := a1.lim hk (by omega)
    have n2 : 0 ≤ z2 := by have := m2.nn; omega
    have hmx : mExt x z0 = (⟨z0, (mI x.body z1)⟩ : Ext) := by simp only [mExt, hz1, hz2]
    have hzn : z0 + (cExt x : Int) = z2 := by rw [hcx, a2.same, a0.same]; omega
    have hm : mExtS l k = mExtS pre k ++ (⟨z0, (mI x.body z1)⟩ : Ext) :: mExtS suf z2 := by rw [hl', mExtS_app pre _ k z0 a0, ← hmx, ← hzn]; rfl
    have y0 : x.body.length ≤ 1099511627776 := w0 x (by rw [hl']; simp)
    obtain ⟨g1, hg1⟩ : ∃ y_, y_ = row fI (mI x.body z1) := ⟨_, rfl⟩
    rw [F.lt_t hi la (by rw [mExtS_len, hl']; simp)]; cbv
    obtain ⟨ix, hix⟩ : ∃ y_, y_ = pre.length * 2 := ⟨_, rfl⟩
    have p0 : at' 2 ea i = some (ix, [.int .i64 z0, .row () g1]) := by simp only [hix, hg1]; have h := F.get (f := fExt) (k := 2) (show At i (mExtS pre k).length by rw [mExtS_len]; exact hi) hea hm (fun _ => rfl) (by decide); rw [mExtS_len] at h; exact h
    rw [p0]; cbv
    rw [F.ne_f rfl]; cbv
    rw [s1]
    rw [p0]; cbv
    have c1 : o 125 [R g1 (.sp 0 0), I z1] = some ⟨[I z2], [], none⟩ := by rw [ho, hg1, hz2]; exact ok125 _ _ m2 y0 rfl
    rw [c1]; cbv
    rw [show lt z2 0 = false by rw [F.lt]; simp; omega]; cbv
    refine ih (suf, pre ++ [x], z2, add .i64 i 1) ⟨at_len (F.inc hi (by omega)) (by simp), a2.eq (by simp [cExtS, cExt] <;> omega), by simp [hl']⟩ (by simp)

/- laws.heldHello -/
theorem ok82 (x : Hello) (k : Int) (hk : Lim k (nHello x)) (w : x.Mid) {f0 f1 : Fl} (q0 : inFl f0 = true) (q1 : inFl f1 = true) : fix Tb md 82 [sHello (row fI (wHello x k).versions) (row fExt (wHello x k).exts) f0 f1, I k] = some ⟨[I (k + (nHello x : Int))], [], none⟩ := by
  have hn : nHello x = x.versions.length + cExtS x.exts := rfl
  unfold Hello.Mid at w
  have a0 : AtK k k 0 := AtK.zero
  obtain ⟨z1, hz1⟩ : ∃ y_, y_ = k + (x.versions.length : Int) := ⟨_, rfl⟩
  have a1 : AtK z1 k (0 + x.versions.length) := hz1 ▸ a0.plus
  have m1 : Lim k (x.versions.length) := a0.lim hk (by omega)
  have n1 : 0 ≤ z1 := by have := m1.nn; omega
  obtain ⟨z2, hz2⟩ : ∃ y_, y_ = z1 + (cExtS x.exts : Int) := ⟨_, rfl⟩
  have a2 : AtK z2 k (0 + x.versions.length + cExtS x.exts) := hz2 ▸ a1.plus
  have m2 : Lim z1 (cExtS x.exts) := a1.lim hk (by omega)
  have n2 : 0 ≤ z2 := by have := m2.nn; omega
  rw [show k + (nHello x : Int) = z2 by rw [a2.same, hn]; simp]
  have x0 : (wHello x k).versions = mI x.versions k := by simp only [wHello, hz1, hz2]
  have x1 : (wHello x k).exts = mExtS x.exts z1 := by simp only [wHello, hz1, hz2]
  rw [x0, x1]
  refine fix_fn (fn := ir82) tb_82 rfl rfl (by decide) rfl ?_; simp only [shutArgs, shutS, List.map_cons, List.map_nil, ir82, shut_in q0, shut_in q1, List.head?_nil, reduceCtorEq, if_false, sExt, sHello, sAnswer, sEdit, sDeal, sBox, sDialed, sKnown]
  generalize hr : (⟨_, [], none⟩ : Ret) = r
  obtain ⟨g0, hg0⟩ : ∃ y_, y_ = row fI (mI x.versions k) := ⟨_, rfl⟩
  obtain ⟨g1, hg1⟩ : ∃ y_, y_ = row fExt (mExtS x.exts z1) := ⟨_, rfl⟩
  rw [← hg0, ← hg1]
  intro add sub mul arith eq ne lt le gt ge neg conv mn mx not beq len at' ln bd cut app allS isNil mks set o hP F ho
  have c1 : o 125 [R g0 (.sp 0 0), I k] = some ⟨[I z1], [], none⟩ := by rw [ho, hz1, hg0]; exact ok125 _ _ m1 (Nat.le_trans (w.1) (by decide)) rfl
  have c2 : o 236 [R g1 (.sp 0 0), I z1] = some ⟨[I z2], [], none⟩ := by rw [ho, hz2, hg1]; exact ok236 _ _ m2 (Nat.le_trans w.2.1 (by decide)) (fun y hy => Nat.le_trans ((w.2.2 y hy)) (by decide)) rfl
  cbv
  rw [c1]; cbv
  rw [show lt z1 0 = false by rw [F.lt]; simp; omega]; cbv
  rw [c2]; cbv
  rw [show lt z2 0 = false by rw [F.lt]; simp; omega]; cbv
  exact congrArg some hr

/- laws.szIntS -/
theorem ok227 {α : Type} (f : α → List V) (l : List α) (left : Int) (h : l.length ≤ 9223372036854775807) (h1 : 0 ≤ left) (h2 : left ≤ 1048576) {f0 : Fl} (h0 : inFl f0 = true) : fix Tb md 227 [R (row f l) f0, I left] = some ⟨[I (sz1 l.length left)], [], none⟩ := by
  by_cases hl : left - l.length < 0
  · rw [show sz1 l.length left = -1 by unfold sz1; rw [if_pos hl]]
    refine fix_fn (fn := ir227) tb_227 rfl rfl (by decide) rfl ?_; simp only [shutArgs, shutS, List.map_cons, List.map_nil, ir227, shut_in h0, List.head?_nil, reduceCtorEq, if_false, sExt, sHello, sAnswer, sEdit, sDeal, sBox, sDialed, sKnown]
    generalize hr : (⟨_, [], none⟩ : Ret) = r
    obtain ⟨ea, hea⟩ : ∃ y_, y_ = row f l := ⟨_, rfl⟩
    rw [← hea]
    intro add sub mul arith eq ne lt le gt ge neg conv mn mx not beq len at' ln bd cut app allS isNil mks set o hP F ho
    have le := F.len_at hea
    unfold At at le
    have hs : lt (sub .i64 left (len ea)) 0 = true := by rw [F.lt, F.sub, le, wrap64 (by omega) (by omega)]; simp; omega
    cbv
    rw [hs]
    cbv
    exact congrArg some hr
  · rw [show sz1 l.length left = left - l.length by unfold sz1; rw [if_neg hl]]
    refine fix_fn (fn := ir227) tb_227 rfl rfl (by decide) rfl ?_; simp only [shutArgs, shutS, List.map_cons, List.map_nil, ir227, shut_in h0, List.head?_nil, reduceCtorEq, if_false, sExt, sHello, sAnswer, sEdit, sDeal, sBox, sDialed, sKnown]
    obtain ⟨v, hv⟩ : ∃ y_, y_ = left - l.length := ⟨_, rfl⟩
    rw [← hv]
    generalize hr : (⟨_, [], none⟩ : Ret) = r
    obtain ⟨ea, hea⟩ : ∃ y_, y_ = row f l := ⟨_, rfl⟩
    rw [← hea]
    intro add sub mul arith eq ne lt le gt ge neg conv mn mx not beq len at' ln bd cut app allS isNil mks set o hP F ho
    have le := F.len_at hea
    unfold At at le
    have e1 : sub .i64 left (len ea) = v := by rw [F.sub, le, wrap64 (by omega) (by omega), hv]
    have hs : lt v 0 = false := by rw [F.lt, hv]; simp; omega
    cbv
    rw [e1, hs]
    cbv
    exact congrArg some hr

/- laws.szExt -/
theorem ok319 (x : Ext) (left : Int) (w : x.Fits) (h1 : 0 ≤ left) (h2 : left ≤ 1048576) {f0 : Fl} (q0 : inFl f0 = true) :
    fix Tb md 319 [sExt x.tag (row fI x.body) f0, I left] = some ⟨[I (szExt x left)], [], none⟩ := by
  refine fix_fn (fn := ir319) tb_319 rfl rfl (by decide) rfl ?_; simp only [shutArgs, shutS, List.map_cons, List.map_nil, ir319, shut_in q0, List.head?_nil, reduceCtorEq, if_false, sExt, sHello, sAnswer, sEdit, sDeal, sBox, sDialed, sKnown]
  obtain ⟨v1, hv1⟩ : ∃ y_, y_ = sz1 x.body.length left := ⟨_, rfl⟩
  rw [show szExt x left = v1 by rw [hv1]; rfl]
  generalize hr : (⟨_, [], none⟩ : Ret) = r
  obtain ⟨e1, he1⟩ : ∃ y_, y_ = row fI x.body := ⟨_, rfl⟩
  rw [← he1]
  have g1 : v1 ≤ 1048576 := by rw [hv1]; exact (Sz.of1 x.body.length).up h2
  have l1 : -1 ≤ v1 := by rw [hv1]; exact (Sz.of1 x.body.length).lo _ h2
  unfold Ext.Fits at w
  intro add sub mul arith eq ne lt le gt ge neg conv mn mx not beq len at' ln bd cut app allS isNil mks set o hP F ho
  have c1 : o 227 [R e1 (.sp 0 0), I left] = some ⟨[I v1], [], none⟩ := by rw [ho, hv1, he1]; exact ok227 fI _ _ w.2.1 h1 h2 rfl
  cbv
  rw [c1]; cbv
  refine both (fun d1 => ?_) (fun d1 => ?_) <;> rw [d1] <;> cbv
  · clear hP c1 ho; simp only [F.lt, decide_eq_true_eq] at d1; clear F; rw [← hr, show v1 = -1 by omega]
  exact congrArg some hr

/- laws.szExtS -/
theorem ok197 (l : List Ext) (left : Int) (w : l.length ≤ 9223372036854775807 ∧ ∀ y ∈ l, y.Fits) (h1 : 0 ≤ left) (h2 : left ≤ 1048576) {f0 : Fl} (q0 : inFl f0 = true) :
    fix Tb md 197 [R (row fExt l) f0, I left] = some ⟨[I (szL szExt l left)], [], none⟩ := by
  have w1 := w.1
  by_cases hl : left - l.length < 0
  · rw [show szL szExt l left = -1 from szF_neg szExt_Sz l _ (by unfold sz1; rw [if_pos hl])]
    refine fix_fn (fn := ir197) tb_197 rfl rfl (by decide) rfl ?_; simp only [shutArgs, shutS, List.map_cons, List.map_nil, ir197, shut_in q0, List.head?_nil, reduceCtorEq, if_false, sExt, sHello, sAnswer, sEdit, sDeal, sBox, sDialed, sKnown]
    generalize hr : (⟨_, [], none⟩ : Ret) = r
    obtain ⟨ea, hea⟩ : ∃ y_, y_ = row fExt l := ⟨_, rfl⟩
    rw [← hea]
    intro add sub mul arith eq ne lt le gt ge neg conv mn mx not beq len at' ln bd cut app allS isNil mks set o hP F ho
    have le := F.len_at hea
    unfold At at le
    have hs : lt (sub .i64 left (len ea)) 0 = true := by rw [F.lt, F.sub, le, wrap64 (by omega) (by omega)]; simp; omega
    cbv
    rw [hs]
    cbv
    exact congrArg some hr
  · have hT : szL szExt l left = l.foldl (fun a x => szExt x a) (left - l.length) := by unfold szL sz1; rw [if_neg hl]
    rw [hT]
    refine fix_fn (fn := ir197) tb_197 rfl rfl (by decide) rfl ?_; simp only [shutArgs, shutS, List.map_cons, List.map_nil, ir197, shut_in q0, List.head?_nil, reduceCtorEq, if_false, sExt, sHello, sAnswer, sEdit, sDeal, sBox, sDialed, sKnown]
    obtain ⟨v, hv⟩ : ∃ y_, y_ = left - l.length := ⟨_, rfl⟩
    rw [← hv]
    have u3 : 0 ≤ v := by omega
    have u4 : v ≤ 1048576 := by omega
    have u5 : l.length ≤ 1048576 := by omega
    obtain ⟨T, hT⟩ : ∃ y_, y_ = l.foldl (fun a x => szExt x a) v := ⟨_, rfl⟩
    rw [← hT]
    generalize hr : (⟨_, [], none⟩ : Ret) = r
    obtain ⟨ea, hea⟩ : ∃ y_, y_ = row fExt l := ⟨_, rfl⟩
    rw [← hea]
    intro add sub mul arith eq ne lt le gt ge neg conv mn mx not beq len at' ln bd cut app allS isNil mks set o hP F ho
    have le := F.len_at hea
    have e1 : sub .i64 left (len ea) = v := by unfold At at le; rw [F.sub, le, wrap64 (by omega) (by omega), hv]
    have hs : lt v 0 = false := by rw [F.lt, hv]; simp; omega
    cbv
    rw [e1, hs]
    cbv
    refine loop_ind hP (σ := List (Ext) × List (Ext) × Int × Int) (fun s => [(0, R ea .sh), (1, I s.2.2.1), (4, I 0), (5, I s.2.2.2)])
      (fun s => At s.2.2.2 s.2.1.length ∧ l = s.2.1 ++ s.1 ∧ 0 ≤ s.2.2.1 ∧ s.2.2.1 ≤ 1048576 ∧ s.1.foldl (fun a x => szExt x a) s.2.2.1 = T) (fun s => s.1.length) (l, [], v, 0) rfl ⟨rfl, rfl, u3, u4, hT.symm⟩ ?_
    rintro ⟨suf, pre, a, i⟩ ⟨hi, hl', ha0, ha1, hf⟩ ih
    simp only at hi hl' ha0 ha1 hf ih
    cbv
    cases suf with
    | nil =>
      rw [F.lt_f hi le (by simp [hl'])]; cbv
      simp only [List.foldl_nil] at hf
      rw [← hr, hf]
    | cons x suf =>
      rw [F.lt_t hi le (by simp [hl'])]; cbv
      rw [List.foldl_cons] at hf
      obtain ⟨e1, he1⟩ : ∃ y_, y_ = row fI x.body := ⟨_, rfl⟩
      obtain ⟨ix, hix⟩ : ∃ y_, y_ = pre.length * 2 := ⟨_, rfl⟩
      rw [show at' 2 ea i = some (ix, [.int .i64 x.tag, .row () e1]) by rw [hix, he1]; exact F.get hi hea hl' (fun _ => rfl) (by decide)]; cbv
      obtain ⟨a', ha'⟩ : ∃ y_, y_ = szExt x a := ⟨_, rfl⟩
      rw [← ha'] at hf
      have u1 : a' ≤ 1048576 := by rw [ha']; exact (szExt_Sz x).up ha1
      have u2 : -1 ≤ a' := by rw [ha']; exact (szExt_Sz x).lo _ ha1
      have c1 : o 319 [sExt x.tag e1 (.sp 0 1), I a] = some ⟨[I a'], [], none⟩ := by rw [ho, ha', he1]; exact ok319 x a (w.2 x (by rw [hl']; simp)) ha0 ha1 rfl
      rw [c1]; cbv
      refine both (fun c => ?_) (fun c => ?_) <;> rw [c] <;> cbv
      · simp only [F.lt, decide_eq_true_eq] at c
        rw [← hr, ← hf, szF_neg szExt_Sz suf a' (by omega)]
      · simp only [F.lt, decide_eq_false_iff_not] at c
        refine ih (suf, pre ++ [x], a', add .i64 i 1) ⟨at_len (F.inc hi (by simp [hl'] at u5; omega)) (by simp), by simp [hl'], by simp only; omega, u1, hf⟩ (by simp)

/- laws.szHello -/
theorem ok83 (x : Hello) (left : Int) (w : x.Fits) (h1 : 0 ≤ left) (h2 : left ≤ 1048576) {f0 f1 : Fl} (q0 : inFl f0 = true) (q1 : inFl f1 = true) :
    fix Tb md 83 [sHello (row fI x.versions) (row fExt x.exts) f0 f1, I left] = some ⟨[I (szHello x left)], [], none⟩ := by
  refine fix_fn (fn := ir83) tb_83 rfl rfl (by decide) rfl ?_; simp only [shutArgs, shutS, List.map_cons, List.map_nil, ir83, shut_in q0, shut_in q1, List.head?_nil, reduceCtorEq, if_false, sExt, sHello, sAnswer, sEdit, sDeal, sBox, sDialed, sKnown]
  obtain ⟨v1, hv1⟩ : ∃ y_, y_ = sz1 x.versions.length left := ⟨_, rfl⟩
  obtain ⟨v2, hv2⟩ : ∃ y_, y_ = szL szExt x.exts v1 := ⟨_, rfl⟩
  rw [show szHello x left = v2 by rw [hv2, hv1]; rfl]
  generalize hr : (⟨_, [], none⟩ : Ret) = r
  obtain ⟨e1, he1⟩ : ∃ y_, y_ = row fI x.versions := ⟨_, rfl⟩
  obtain ⟨e2, he2⟩ : ∃ y_, y_ = row fExt x.exts := ⟨_, rfl⟩
  rw [← he1, ← he2]
  have g1 : v1 ≤ 1048576 := by rw [hv1]; exact (Sz.of1 x.versions.length).up h2
  have l1 : -1 ≤ v1 := by rw [hv1]; exact (Sz.of1 x.versions.length).lo _ h2
  have g2 : v2 ≤ 1048576 := by rw [hv2]; exact (Sz.list szExt_Sz x.exts).up g1
  have l2 : -1 ≤ v2 := by rw [hv2]; exact (Sz.list szExt_Sz x.exts).lo _ g1
  have n2 : v1 < 0 → v2 = -1 := fun q => by rw [hv2]; exact (Sz.list szExt_Sz x.exts).neg _ q
  unfold Hello.Fits at w
  intro add sub mul arith eq ne lt le gt ge neg conv mn mx not beq len at' ln bd cut app allS isNil mks set o hP F ho
  have c1 : o 227 [R e1 (.sp 0 0), I left] = some ⟨[I v1], [], none⟩ := by rw [ho, hv1, he1]; exact ok227 fI _ _ w.1.1 h1 h2 rfl
  have c2 : 0 ≤ v1 → o 197 [R e2 (.sp 0 0), I v1] = some ⟨[I v2], [], none⟩ := by intro q; rw [ho, hv2, he2]; exact ok197 _ _ w.2 q g1 rfl
  cbv
  rw [c1]; cbv
  refine both (fun d1 => ?_) (fun d1 => ?_) <;> rw [d1] <;> cbv
  · clear hP c1 c2 ho; simp only [F.lt, decide_eq_true_eq] at d1; clear F; rw [← hr, show v2 = -1 by omega]
  rw [c2 (by simp only [F.lt, decide_eq_false_iff_not] at d1; omega)]; cbv
  refine both (fun d2 => ?_) (fun d2 => ?_) <;> rw [d2] <;> cbv
  · clear hP c1 c2 ho; simp only [F.lt, decide_eq_true_eq] at d2; clear F; rw [← hr, show v2 = -1 by omega]
  exact congrArg some hr

/- laws.toExt -/
theorem ok320 (x : Ext) (w : x.Mid) {f0 : Fl} (q0 : inFl f0 = true) :
    fix Tb md 320 [sExt x.tag (row fI x.body) f0] = some ⟨[sExt x.tag (row fI x.body) (.ow false)], [], none⟩ := by
  refine fix_fn (fn := ir320) tb_320 rfl rfl (by decide) rfl ?_; simp only [shutArgs, shutS, List.map_cons, List.map_nil, ir320, shut_in q0, List.head?_nil, reduceCtorEq, if_false, sExt, sHello, sAnswer, sEdit, sDeal, sBox, sDialed, sKnown]
  generalize hr : (⟨_, [], none⟩ : Ret) = r
  obtain ⟨e1, he1⟩ : ∃ y_, y_ = row fI x.body := ⟨_, rfl⟩
  rw [← he1] at hr ⊢
  unfold Ext.Mid at w
  intro add sub mul arith eq ne lt le gt ge neg conv mn mx not beq len at' ln bd cut app allS isNil mks set o hP F ho
  have c1 : o 76 [R e1 (.sp 0 0)] = some ⟨[R e1 (.ow false)], [], none⟩ := by rw [ho, he1]; exact ok76 _ (by have := w; omega) rfl
  cbv
  rw [c1]; cbv
  exact congrArg some hr

/- laws.toExtS -/
theorem ok199 (l : List (Ext)) (w : l.length ≤ 1073741824 ∧ ∀ y ∈ l, y.Mid) {f0 : Fl} (q0 : inFl f0 = true) :
    fix Tb md 199 [R (row fExt l) f0] = some ⟨[R (row fExt l) (.ow false)], [], none⟩ := by
  have w1 := w.1
  refine fix_fn (fn := ir199) tb_199 rfl rfl (by decide) rfl ?_; simp only [shutArgs, shutS, List.map_cons, List.map_nil, ir199, shut_in q0, List.head?_nil, reduceCtorEq, if_false, sExt, sHello, sAnswer, sEdit, sDeal, sBox, sDialed, sKnown]
  generalize hr : (⟨_, [], none⟩ : Ret) = r
  obtain ⟨ea, hea⟩ : ∃ y_, y_ = row fExt l := ⟨_, rfl⟩
  rw [← hea] at hr ⊢
  intro add sub mul arith eq ne lt le gt ge neg conv mn mx not beq len at' ln bd cut app allS isNil mks set o hP F ho
  have la := F.len_at hea
  cbv
  obtain ⟨e0, he0⟩ : ∃ y_, y_ = row fExt (List.replicate l.length (⟨0, []⟩ : Ext)) := ⟨_, rfl⟩
  rw [show mks [.int .i64 0, .row () []] (len ea) (len ea) = some e0 by rw [F.mks, show len ea = _ from la, he0]; exact row_mk (f := fExt) (a := (⟨0, []⟩ : Ext)) rfl (by simp [fExt]) (show l.length ≤ 1099511627776 by omega)]; cbv
  refine loop_ind hP (σ := List (Ext) × List (Ext) × List (List V) × Int) (fun s => [(0, R ea .sh), (2, R [] .nl), (3, R s.2.2.1 (.ow false)), (4, I s.2.2.2)])
    (fun s => At s.2.2.2 s.2.1.length ∧ l = s.2.1 ++ s.1 ∧ s.2.2.1 = row fExt (s.2.1 ++ List.replicate s.1.length (⟨0, []⟩ : Ext))) (fun s => s.1.length) (l, [], e0, 0) rfl ⟨rfl, rfl, by simpa using he0⟩ ?_
  rintro ⟨suf, pre, eo, i⟩ ⟨hi, hl', heo⟩ ih
  simp only at hi hl' heo ih
  cbv
  cases suf with
  | nil =>
    rw [F.lt_f hi la (by simp [hl'])]; cbv
    rw [← hr, heo, hea, hl']; simp
  | cons x suf =>
    rw [F.lt_t hi la (by simp [hl'])]; cbv
    obtain ⟨e1, he1⟩ : ∃ y_, y_ = row fI x.body := ⟨_, rfl⟩
    obtain ⟨ix, hix⟩ : ∃ y_, y_ = pre.length * 2 := ⟨_, rfl⟩
    rw [show at' 2 ea i = some (ix, [.int .i64 x.tag, .row () e1]) by rw [hix, he1]; exact F.get hi hea hl' (fun _ => rfl) (by decide)]; cbv
    have c1 : o 320 [sExt x.tag e1 (.sp 0 1)] = some ⟨[sExt x.tag e1 (.ow false)], [], none⟩ := by rw [ho, he1]; exact ok320 x (w.2 x (by rw [hl']; simp)) rfl
    rw [c1]; cbv
    rw [show at' 2 eo i = some (ix, [.int .i64 0, .row () []]) by rw [hix]; exact F.get hi heo rfl (fun _ => rfl) (by decide)]; cbv
    obtain ⟨eo', heo'⟩ : ∃ y_, y_ = row fExt (pre ++ x :: List.replicate suf.length (⟨0, []⟩ : Ext)) := ⟨_, rfl⟩
    rw [show set eo ix [.int .i64 x.tag, .row () e1] = some eo' by rw [F.set, heo, hix, heo', he1]; exact set_all (fun _ => rfl) rfl]; cbv
    refine ih (suf, pre ++ [x], eo', add .i64 i 1) ⟨at_len (F.inc hi (by simp [hl'] at w1; omega)) (by simp), by simp [hl'], by simp [heo']⟩ (by simp)

/- laws.toHello -/
theorem ok85 (x : Hello) (w : x.Mid) {f0 f1 : Fl} (q0 : inFl f0 = true) (q1 : inFl f1 = true) :
    fix Tb md 85 [sHello (row fI x.versions) (row fExt x.exts) f0 f1] = some ⟨[sHello (row fI x.versions) (row fExt x.exts) (.ow false) (.ow false)], [], none⟩ := by
  refine fix_fn (fn := ir85) tb_85 rfl rfl (by decide) rfl ?_; simp only [shutArgs, shutS, List.map_cons, List.map_nil, ir85, shut_in q0, shut_in q1, List.head?_nil, reduceCtorEq, if_false, sExt, sHello, sAnswer, sEdit, sDeal, sBox, sDialed, sKnown]
  generalize hr : (⟨_, [], none⟩ : Ret) = r
  obtain ⟨e1, he1⟩ : ∃ y_, y_ = row fI x.versions := ⟨_, rfl⟩
  obtain ⟨e2, he2⟩ : ∃ y_, y_ = row fExt x.exts := ⟨_, rfl⟩
  rw [← he1, ← he2] at hr ⊢
  unfold Hello.Mid at w
  intro add sub mul arith eq ne lt le gt ge neg conv mn mx not beq len at' ln bd cut app allS isNil mks set o hP F ho
  have c1 : o 76 [R e1 (.sp 0 0)] = some ⟨[R e1 (.ow false)], [], none⟩ := by rw [ho, he1]; exact ok76 _ (by have := w.1; omega) rfl
  have c2 : o 199 [R e2 (.sp 0 0)] = some ⟨[R e2 (.ow false)], [], none⟩ := by rw [ho, he2]; exact ok199 _ w.2 rfl
  cbv
  rw [c1]; cbv
  rw [c2]; cbv
  exact congrArg some hr

/- laws.FnExactPartHello -/
theorem law34 (h : Hello) (wh : h.Fits) (lostVersions : List Int) (wlostVersions : lostVersions.length ≤ 9223372036854775807 ∧ ∀ y ∈ lostVersions, Int64 y) (lostTags : List Int) (wlostTags : lostTags.length ≤ 9223372036854775807 ∧ ∀ y ∈ lostTags, Int64 y) :
    fix Tb md 34 [sHello (row fI h.versions) (row fExt h.exts) (.sp 0 0) (.sp 0 1), R (row fI lostVersions) (.sp 1 0), R (row fI lostTags) (.sp 2 0)] = some ⟨[B true], [], none⟩ := by
  generalize hr : (⟨_, [], none⟩ : Ret) = r
  obtain ⟨e1, he1⟩ : ∃ y_, y_ = row fI h.versions := ⟨_, rfl⟩
  obtain ⟨e2, he2⟩ : ∃ y_, y_ = row fExt h.exts := ⟨_, rfl⟩
  obtain ⟨e3, he3⟩ : ∃ y_, y_ = row fI lostVersions := ⟨_, rfl⟩
  obtain ⟨e4, he4⟩ : ∃ y_, y_ = row fI lostTags := ⟨_, rfl⟩
  rw [← he1, ← he2, ← he3, ← he4]
  obtain ⟨v1, hv1⟩ : ∃ y_, y_ = szHello h 1048576 := ⟨_, rfl⟩
  have u1 : v1 ≤ 1048576 := by rw [hv1]; exact (szHello_Sz h).up (by decide)
  have s1 := fun q : 0 ≤ v1 => (szHello_Sz h).ok 1048576 (by decide) (hv1 ▸ q)
  obtain ⟨w, hw⟩ : ∃ y_, y_ = partV h lostVersions lostTags := ⟨_, rfl⟩
  obtain ⟨w1, hw1⟩ : ∃ y_, y_ = partOk h lostVersions := ⟨_, rfl⟩
  refine fix_fn2 (fn := ir34) tb_34 rfl rfl (by decide) rfl ?_; intro Q hQ; simp only [shutArgs, shutS, List.map_cons, List.map_nil, ir34, List.head?_nil, reduceCtorEq, if_false, sExt, sHello, sAnswer, sEdit, sDeal, sBox, sDialed, sKnown, shut_in (f := .sp 0 0) rfl, shut_in (f := .sp 0 1) rfl, shut_in (f := .sp 1 0) rfl, shut_in (f := .sp 2 0) rfl]
  intro add sub mul arith eq ne lt le gt ge neg conv mn mx not beq len at' ln bd cut app allS isNil mks set o hP F ho
  have le3 := F.len_at he3
  have le4 := F.len_at he4
  have b1 : o 83 [sHello e1 e2 (.sp 0 0) (.sp 0 1), I 1048576] = some ⟨[I v1], [], none⟩ := by rw [ho, hv1, he1, he2]; exact ok83 h _ wh (by decide) (by decide) rfl rfl 
  cbv
  refine both (fun dlostVersions => ?_) (fun dlostVersions => ?_) <;> rw [dlostVersions] <;> cbv
  · rw [hQ]; cbv; exact congrArg some hr
  have tlostVersions : lostVersions.length ≤ 1048576 := by unfold At at le3; simp only [F.gt, le3, decide_eq_false_iff_not] at dlostVersions; omega
  refine both (fun dlostTags => ?_) (fun dlostTags => ?_) <;> rw [dlostTags] <;> cbv
  · rw [hQ]; cbv; exact congrArg some hr
  have tlostTags : lostTags.length ≤ 1048576 := by unfold At at le4; simp only [F.gt, le4, decide_eq_false_iff_not] at dlostTags; omega
  rw [b1]; cbv
  refine both (fun d1 => ?_) (fun d1 => ?_) <;> rw [d1] <;> cbv
  · rw [hQ]; cbv; exact congrArg some hr
  have p1 : 0 ≤ v1 := by simp only [F.lt, decide_eq_false_iff_not] at d1; omega
  have th := s1 p1
  have thm := th.mid
  have rh := th
  unfold Hello.Small at rh
  have kh : o 85 [sHello e1 e2 (.sp 0 0) (.sp 0 1)] = some ⟨[sHello e1 e2 (.ow false) (.ow false)], [], none⟩ := by rw [ho, he1, he2]; exact ok85 h thm rfl rfl 
  have qh : o 78 [sHello e1 e2 (.sp 0 0) (.sp 0 1), sHello e1 e2 (.sp 1 0) (.sp 1 1)] = some ⟨[B true], [], none⟩ := by rw [ho, he1, he2]; exact ok78 h thm rfl rfl  rfl rfl 
  have klostVersions : o 76 [R e3 (.sp 0 0)] = some ⟨[R e3 (.ow false)], [], none⟩ := by rw [ho, he3]; exact ok76 lostVersions (show lostVersions.length ≤ 1099511627776 by omega) rfl 
  have qlostVersions : o 79 [R e3 (.sp 0 0), R e3 (.sp 1 0)] = some ⟨[B true], [], none⟩ := by rw [ho, he3]; exact ok79t lostVersions (show lostVersions.length ≤ 1099511627776 by omega) rfl  rfl 
  have klostTags : o 76 [R e4 (.sp 0 0)] = some ⟨[R e4 (.ow false)], [], none⟩ := by rw [ho, he4]; exact ok76 lostTags (show lostTags.length ≤ 1099511627776 by omega) rfl 
  have qlostTags : o 79 [R e4 (.sp 0 0), R e4 (.sp 1 0)] = some ⟨[B true], [], none⟩ := by rw [ho, he4]; exact ok79t lostTags (show lostTags.length ≤ 1099511627776 by omega) rfl  rfl 
  have wm : w.Mid := by rw [hw]; exact partV_mid thm
  obtain ⟨g0, hg0⟩ : ∃ y_, y_ = row fI w.versions := ⟨_, rfl⟩
  obtain ⟨h0, hh0⟩ : ∃ y_, y_ = row fI ((wHello w 1).versions) := ⟨_, rfl⟩
  obtain ⟨g1, hg1⟩ : ∃ y_, y_ = row fExt w.exts := ⟨_, rfl⟩
  obtain ⟨h1, hh1⟩ : ∃ y_, y_ = row fExt ((wHello w 1).exts) := ⟨_, rfl⟩
  obtain ⟨zz, hzz⟩ : ∃ y_, y_ = 1 + (nHello w : Int) := ⟨_, rfl⟩
  have lr : Lim 1 (nHello w) := Lim.of1 (by have := nHello_mid wm; omega)
  have l2 : lt zz 0 = false := by rw [F.lt, hzz]; simp; omega
  have l3 : ne zz zz = false := F.ne_f rfl
  have a0 : AtK 1 1 0 := AtK.zero
  have y0 := nHello_small th
  have y1 := tlostVersions
  have y2 := tlostTags
  have lk : Lim 1 (0 + nHello h + lostVersions.length + lostTags.length) := Lim.of1 (by omega)
  obtain ⟨z1, hz1⟩ : ∃ y_, y_ = 1 + (nHello h : Int) := ⟨_, rfl⟩
  have a1 : AtK z1 1 (0 + nHello h) := hz1 ▸ a0.plus
  have v1m : Lim 1 (nHello h) := a0.lim lk (by omega)
  obtain ⟨x0_0, hx0_0⟩ : ∃ y_, y_ = row fI ((wHello h 1).versions) := ⟨_, rfl⟩
  obtain ⟨x0_1, hx0_1⟩ : ∃ y_, y_ = row fExt ((wHello h 1).exts) := ⟨_, rfl⟩
  have n1 : o 1081 [sHello e1 e2 (.mp 0) (.mp 1), I 1] = some ⟨[I z1], [.row () x0_0, .row () x0_1], none⟩ := by rw [ho, hz1, he1, he2, hx0_0, hx0_1]; exact ok1081 h _ v1m thm
  obtain ⟨z2, hz2⟩ : ∃ y_, y_ = z1 + (lostVersions.length : Int) := ⟨_, rfl⟩
  have a2 : AtK z2 1 (0 + nHello h + lostVersions.length) := hz2 ▸ a1.plus
  have v2m : Lim z1 (lostVersions.length) := a1.lim lk (by omega)
  obtain ⟨x1_0, hx1_0⟩ : ∃ y_, y_ = row fI (mI lostVersions z1) := ⟨_, rfl⟩
  have n2 : o 1080 [R e3 (.mp 0), I z1] = some ⟨[I z2], [.row () x1_0], none⟩ := by rw [ho, hz2, he3, hx1_0]; exact ok1080 _ _ v2m (by omega)
  obtain ⟨z3, hz3⟩ : ∃ y_, y_ = z2 + (lostTags.length : Int) := ⟨_, rfl⟩
  have a3 : AtK z3 1 (0 + nHello h + lostVersions.length + lostTags.length) := hz3 ▸ a2.plus
  have v3m : Lim z2 (lostTags.length) := a2.lim lk (by omega)
  obtain ⟨x2_0, hx2_0⟩ : ∃ y_, y_ = row fI (mI lostTags z2) := ⟨_, rfl⟩
  have n3 : o 1080 [R e4 (.mp 0), I z2] = some ⟨[I z3], [.row () x2_0], none⟩ := by rw [ho, hz3, he4, hx2_0]; exact ok1080 _ _ v3m (by omega)
  have l1 : lt z3 0 = false := by rw [F.lt]; have := a3.same; simp; omega
  have hs : (fix Tb md 164 [sHello (row fI h.versions) (row fExt h.exts) (.sp 0 0) (.sp 0 1), R (row fI lostVersions) (.sp 1 0), R (row fI lostTags) (.sp 2 0)] = some ⟨[sHello (row fI w.versions) (row fExt w.exts) (.ow false) (.ow false), B w1], [], none⟩) ∨ (w.exts = [] ∧ fix Tb md 164 [sHello (row fI h.versions) (row fExt h.exts) (.sp 0 0) (.sp 0 1), R (row fI lostVersions) (.sp 1 0), R (row fI lostTags) (.sp 2 0)] = some ⟨[sHello (row fI w.versions) [] (.ow false) .nl, B w1], [], none⟩) ∨ (w.versions = [] ∧ w.exts = [] ∧ fix Tb md 164 [sHello (row fI h.versions) (row fExt h.exts) (.sp 0 0) (.sp 0 1), R (row fI lostVersions) (.sp 1 0), R (row fI lostTags) (.sp 2 0)] = some ⟨[sHello [] [] .nl .nl, B w1], [], none⟩) := by rw [hw, hw1]; exact ok164 h lostVersions lostTags thm (by omega) (by omega) rfl rfl rfl rfl
  have hi : (fix Tb md 165 [sHello (row fI h.versions) (row fExt h.exts) (.sp 0 0) (.sp 0 1), R (row fI lostVersions) (.sp 1 0), R (row fI lostTags) (.sp 2 0)] = some ⟨[sHello (row fI w.versions) (row fExt w.exts) (.ow false) (.ow false), B w1], [], none⟩) ∨ (w.versions = [] ∧ w.exts = [] ∧ fix Tb md 165 [sHello (row fI h.versions) (row fExt h.exts) (.sp 0 0) (.sp 0 1), R (row fI lostVersions) (.sp 1 0), R (row fI lostTags) (.sp 2 0)] = some ⟨[sHello [] [] .nl .nl, B w1], [], none⟩) := by rw [hw, hw1]; exact ok165 h lostVersions lostTags thm (by omega) (by omega) rfl rfl rfl rfl
  rcases hs with hs | ⟨ns1, hs⟩ | ⟨ns0, ns1, hs⟩
  · rcases hi with hi | ⟨ni0, ni1, hi⟩
    · have m1 : o 164 [sHello e1 e2 (.sp 0 0) (.sp 0 1), R e3 (.sp 1 0), R e4 (.sp 2 0)] = some ⟨[sHello g0 g1 (.ow false) (.ow false), B w1], [], none⟩ := by rw [ho, he1, he2, he3, he4]; simp only [hg0, hg1]; exact hs
      have m2 : o 165 [sHello e1 e2 (.sp 0 0) (.sp 0 1), R e3 (.sp 1 0), R e4 (.sp 2 0)] = some ⟨[sHello g0 g1 (.ow false) (.ow false), B w1], [], none⟩ := by rw [ho, he1, he2, he3, he4]; simp only [hg0, hg1]; exact hi
      have r1 : o 78 [sHello g0 g1 (.sp 0 0) (.sp 0 1), sHello g0 g1 (.sp 1 0) (.sp 1 1)] = some ⟨[B true], [], none⟩ := by
        have h := ok78 w wm (f0 := (.sp 0 0)) (g0 := (.sp 1 0)) (f1 := (.sp 0 1)) (g1 := (.sp 1 1)) rfl rfl rfl rfl 
        rw [ho]
        try simp only [hg0, hg1]
        exact h
      have r2 : o 1081 [sHello g0 g1 (.mp 0) (.mp 1), I 1] = some ⟨[I zz], [.row () h0, .row () h1], none⟩ := by
        have h := ok1081 w 1 lr wm
        rw [ho, hzz]
        try simp only [hg0, hg1, hh0, hh1]
        exact h
      have r3 : o 82 [sHello h0 h1 (.sp 0 0) (.sp 0 1), I 1] = some ⟨[I zz], [], none⟩ := by
        have h := ok82 w 1 lr wm (f0 := (.sp 0 0)) (f1 := (.sp 0 1)) rfl rfl 
        rw [ho, hzz]
        try simp only [hh0, hh1]
        exact h
      try (rw [kh]; cbv)
      try (rw [klostVersions]; cbv)
      try (rw [klostTags]; cbv)
      try (rw [m1]; cbv)
      try (rw [kh]; cbv)
      try (rw [klostVersions]; cbv)
      try (rw [klostTags]; cbv)
      try (rw [m2]; cbv)
      try (rw [r1]; cbv)
      try (rw [show not true = false by rw [F.not]; rfl]; cbv)
      try (rw [show not (beq w1 w1) = false by rw [F.not, F.beq]; simp]; cbv)
      try (rw [kh]; cbv)
      try (rw [qh]; cbv)
      try (rw [show not true = false by rw [F.not]; rfl]; cbv)
      try (rw [klostVersions]; cbv)
      try (rw [qlostVersions]; cbv)
      try (rw [show not true = false by rw [F.not]; rfl]; cbv)
      try (rw [klostTags]; cbv)
      try (rw [qlostTags]; cbv)
      try (rw [show not true = false by rw [F.not]; rfl]; cbv)
      try (rw [n1]; cbv)
      try (rw [n2]; cbv)
      try (rw [n3]; cbv)
      try (rw [l1]; cbv)
      try (rw [r1]; cbv)
      try (rw [show not true = false by rw [F.not]; rfl]; cbv)
      try (rw [show not (beq w1 w1) = false by rw [F.not, F.beq]; simp]; cbv)
      try (rw [r2]; cbv)
      try (rw [r3]; cbv)
      try (rw [l2]; cbv)
      try (rw [l3]; cbv)
      try (rw [kh]; cbv)
      try (rw [klostVersions]; cbv)
      try (rw [klostTags]; cbv)
      try (rw [m2]; cbv)
      try (rw [r1]; cbv)
      try (rw [show not true = false by rw [F.not]; rfl]; cbv)
      try (rw [show not (beq w1 w1) = false by rw [F.not, F.beq]; simp]; cbv)
      try (rw [r3]; cbv)
      try (rw [l2]; cbv)
      try (rw [l3]; cbv)
      repeat' (first | (rw [kh]; cbv) | (rw [qh]; cbv) | (rw [klostVersions]; cbv) | (rw [qlostVersions]; cbv) | (rw [klostTags]; cbv) | (rw [qlostTags]; cbv) | (rw [m1]; cbv) | (rw [m2]; cbv) | (rw [r1]; cbv) | (rw [n1]; cbv) | (rw [n2]; cbv) | (rw [n3]; cbv) | (rw [r2]; cbv) | (rw [r3]; cbv) | (rw [l1]; cbv) | (rw [l2]; cbv) | (rw [l3]; cbv) | (rw [F.ne_f rfl]; cbv) | (rw [show not (beq w1 w1) = false by rw [F.not, F.beq]; simp]; cbv) | (rw [show not true = false by rw [F.not]; rfl]; cbv) | (rw [hQ]; cbv; exact congrArg some hr))
    · have m1 : o 164 [sHello e1 e2 (.sp 0 0) (.sp 0 1), R e3 (.sp 1 0), R e4 (.sp 2 0)] = some ⟨[sHello g0 g1 (.ow false) (.ow false), B w1], [], none⟩ := by rw [ho, he1, he2, he3, he4]; simp only [hg0, hg1]; exact hs
      have m2 : o 165 [sHello e1 e2 (.sp 0 0) (.sp 0 1), R e3 (.sp 1 0), R e4 (.sp 2 0)] = some ⟨[sHello [] [] .nl .nl, B w1], [], none⟩ := by rw [ho, he1, he2, he3, he4]; exact hi
      have r1 : o 78 [sHello [] [] .nl .nl, sHello g0 g1 (.sp 1 0) (.sp 1 1)] = some ⟨[B true], [], none⟩ := by
        have h := ok78 w wm (f0 := .nl) (g0 := (.sp 1 0)) (f1 := .nl) (g1 := (.sp 1 1)) rfl rfl rfl rfl 
        try simp only [ni0, ni1] at h
        rw [ho]
        try simp only [hg0, hg1, ni0, ni1]
        exact h
      have r2 : o 1081 [sHello [] [] .nl .nl, I 1] = some ⟨[I zz], [], none⟩ := by
        have h := ok1081_nn w 1 lr wm ni0 ni1
        try simp only [wHello, mI, mExtS, ni0, ni1] at h
        rw [ho, hzz]
        try simp only [wHello, mI, mExtS, ni0, ni1]
        exact h
      have r3 : o 82 [sHello [] [] .nl .nl, I 1] = some ⟨[I zz], [], none⟩ := by
        have h := ok82 w 1 lr wm (f0 := .nl) (f1 := .nl) rfl rfl 
        try simp only [wHello, mI, mExtS, ni0, ni1] at h
        rw [ho, hzz]
        try simp only [wHello, mI, mExtS, ni0, ni1]
        exact h
      try (rw [kh]; cbv)
      try (rw [klostVersions]; cbv)
      try (rw [klostTags]; cbv)
      try (rw [m1]; cbv)
      try (rw [kh]; cbv)
      try (rw [klostVersions]; cbv)
      try (rw [klostTags]; cbv)
      try (rw [m2]; cbv)
      try (rw [r1]; cbv)
      try (rw [show not true = false by rw [F.not]; rfl]; cbv)
      try (rw [show not (beq w1 w1) = false by rw [F.not, F.beq]; simp]; cbv)
      try (rw [kh]; cbv)
      try (rw [qh]; cbv)
      try (rw [show not true = false by rw [F.not]; rfl]; cbv)
      try (rw [klostVersions]; cbv)
      try (rw [qlostVersions]; cbv)
      try (rw [show not true = false by rw [F.not]; rfl]; cbv)
      try (rw [klostTags]; cbv)
      try (rw [qlostTags]; cbv)
      try (rw [show not true = false by rw [F.not]; rfl]; cbv)
      try (rw [n1]; cbv)
      try (rw [n2]; cbv)
      try (rw [n3]; cbv)
      try (rw [l1]; cbv)
      try (rw [r1]; cbv)
      try (rw [show not true = false by rw [F.not]; rfl]; cbv)
      try (rw [show not (beq w1 w1) = false by rw [F.not, F.beq]; simp]; cbv)
      try (rw [r2]; cbv)
      try (rw [r3]; cbv)
      try (rw [l2]; cbv)
      try (rw [l3]; cbv)
      try (rw [kh]; cbv)
      try (rw [klostVersions]; cbv)
      try (rw [klostTags]; cbv)
      try (rw [m2]; cbv)
      try (rw [r1]; cbv)
      try (rw [show not true = false by rw [F.not]; rfl]; cbv)
      try (rw [show not (beq w1 w1) = false by rw [F.not, F.beq]; simp]; cbv)
      try (rw [r3]; cbv)
      try (rw [l2]; cbv)
      try (rw [l3]; cbv)
      repeat' (first | (rw [kh]; cbv) | (rw [qh]; cbv) | (rw [klostVersions]; cbv) | (rw [qlostVersions]; cbv) | (rw [klostTags]; cbv) | (rw [qlostTags]; cbv) | (rw [m1]; cbv) | (rw [m2]; cbv) | (rw [r1]; cbv) | (rw [n1]; cbv) | (rw [n2]; cbv) | (rw [n3]; cbv) | (rw [r2]; cbv) | (rw [r3]; cbv) | (rw [l1]; cbv) | (rw [l2]; cbv) | (rw [l3]; cbv) | (rw [F.ne_f rfl]; cbv) | (rw [show not (beq w1 w1) = false by rw [F.not, F.beq]; simp]; cbv) | (rw [show not true = false by rw [F.not]; rfl]; cbv) | (rw [hQ]; cbv; exact congrArg some hr))
  · rcases hi with hi | ⟨ni0, ni1, hi⟩
    · have m1 : o 164 [sHello e1 e2 (.sp 0 0) (.sp 0 1), R e3 (.sp 1 0), R e4 (.sp 2 0)] = some ⟨[sHello g0 [] (.ow false) .nl, B w1], [], none⟩ := by rw [ho, he1, he2, he3, he4]; simp only [hg0]; exact hs
      have m2 : o 165 [sHello e1 e2 (.sp 0 0) (.sp 0 1), R e3 (.sp 1 0), R e4 (.sp 2 0)] = some ⟨[sHello g0 g1 (.ow false) (.ow false), B w1], [], none⟩ := by rw [ho, he1, he2, he3, he4]; simp only [hg0, hg1]; exact hi
      have r1 : o 78 [sHello g0 g1 (.sp 0 0) (.sp 0 1), sHello g0 [] (.sp 1 0) .nl] = some ⟨[B true], [], none⟩ := by
        have h := ok78 w wm (f0 := (.sp 0 0)) (g0 := (.sp 1 0)) (f1 := (.sp 0 1)) (g1 := .nl) rfl rfl rfl rfl 
        try simp only [ns1] at h
        rw [ho]
        try simp only [hg0, hg1, ns1]
        exact h
      have r2 : o 1081 [sHello g0 g1 (.mp 0) (.mp 1), I 1] = some ⟨[I zz], [.row () h0, .row () h1], none⟩ := by
        have h := ok1081 w 1 lr wm
        rw [ho, hzz]
        try simp only [hg0, hg1, hh0, hh1]
        exact h
      have r3 : o 82 [sHello h0 h1 (.sp 0 0) (.sp 0 1), I 1] = some ⟨[I zz], [], none⟩ := by
        have h := ok82 w 1 lr wm (f0 := (.sp 0 0)) (f1 := (.sp 0 1)) rfl rfl 
        rw [ho, hzz]
        try simp only [hh0, hh1]
        exact h
      try (rw [kh]; cbv)
      try (rw [klostVersions]; cbv)
      try (rw [klostTags]; cbv)
      try (rw [m1]; cbv)
      try (rw [kh]; cbv)
      try (rw [klostVersions]; cbv)
      try (rw [klostTags]; cbv)
      try (rw [m2]; cbv)
      try (rw [r1]; cbv)
      try (rw [show not true = false by rw [F.not]; rfl]; cbv)
      try (rw [show not (beq w1 w1) = false by rw [F.not, F.beq]; simp]; cbv)
      try (rw [kh]; cbv)
      try (rw [qh]; cbv)
      try (rw [show not true = false by rw [F.not]; rfl]; cbv)
      try (rw [klostVersions]; cbv)
      try (rw [qlostVersions]; cbv)
      try (rw [show not true = false by rw [F.not]; rfl]; cbv)
      try (rw [klostTags]; cbv)
      try (rw [qlostTags]; cbv)
      try (rw [show not true = false by rw [F.not]; rfl]; cbv)
      try (rw [n1]; cbv)
      try (rw [n2]; cbv)
      try (rw [n3]; cbv)
      try (rw [l1]; cbv)
      try (rw [r1]; cbv)
      try (rw [show not true = false by rw [F.not]; rfl]; cbv)
      try (rw [show not (beq w1 w1) = false by rw [F.not, F.beq]; simp]; cbv)
      try (rw [r2]; cbv)
      try (rw [r3]; cbv)
      try (rw [l2]; cbv)
      try (rw [l3]; cbv)
      try (rw [kh]; cbv)
      try (rw [klostVersions]; cbv)
      try (rw [klostTags]; cbv)
      try (rw [m2]; cbv)
      try (rw [r1]; cbv)
      try (rw [show not true = false by rw [F.not]; rfl]; cbv)
      try (rw [show not (beq w1 w1) = false by rw [F.not, F.beq]; simp]; cbv)
      try (rw [r3]; cbv)
      try (rw [l2]; cbv)
      try (rw [l3]; cbv)
      repeat' (first | (rw [kh]; cbv) | (rw [qh]; cbv) | (rw [klostVersions]; cbv) | (rw [qlostVersions]; cbv) | (rw [klostTags]; cbv) | (rw [qlostTags]; cbv) | (rw [m1]; cbv) | (rw [m2]; cbv) | (rw [r1]; cbv) | (rw [n1]; cbv) | (rw [n2]; cbv) | (rw [n3]; cbv) | (rw [r2]; cbv) | (rw [r3]; cbv) | (rw [l1]; cbv) | (rw [l2]; cbv) | (rw [l3]; cbv) | (rw [F.ne_f rfl]; cbv) | (rw [show not (beq w1 w1) = false by rw [F.not, F.beq]; simp]; cbv) | (rw [show not true = false by rw [F.not]; rfl]; cbv) | (rw [hQ]; cbv; exact congrArg some hr))
    · have m1 : o 164 [sHello e1 e2 (.sp 0 0) (.sp 0 1), R e3 (.sp 1 0), R e4 (.sp 2 0)] = some ⟨[sHello g0 [] (.ow false) .nl, B w1], [], none⟩ := by rw [ho, he1, he2, he3, he4]; simp only [hg0]; exact hs
      have m2 : o 165 [sHello e1 e2 (.sp 0 0) (.sp 0 1), R e3 (.sp 1 0), R e4 (.sp 2 0)] = some ⟨[sHello [] [] .nl .nl, B w1], [], none⟩ := by rw [ho, he1, he2, he3, he4]; exact hi
      have r1 : o 78 [sHello [] [] .nl .nl, sHello g0 [] (.sp 1 0) .nl] = some ⟨[B true], [], none⟩ := by
        have h := ok78 w wm (f0 := .nl) (g0 := (.sp 1 0)) (f1 := .nl) (g1 := .nl) rfl rfl rfl rfl 
        try simp only [ni0, ni1] at h
        rw [ho]
        try simp only [hg0, hg1, ni0, ni1]
        exact h
      have r2 : o 1081 [sHello [] [] .nl .nl, I 1] = some ⟨[I zz], [], none⟩ := by
        have h := ok1081_nn w 1 lr wm ni0 ni1
        try simp only [wHello, mI, mExtS, ni0, ni1] at h
        rw [ho, hzz]
        try simp only [wHello, mI, mExtS, ni0, ni1]
        exact h
      have r3 : o 82 [sHello [] [] .nl .nl, I 1] = some ⟨[I zz], [], none⟩ := by
        have h := ok82 w 1 lr wm (f0 := .nl) (f1 := .nl) rfl rfl 
        try simp only [wHello, mI, mExtS, ni0, ni1] at h
        rw [ho, hzz]
        try simp only [wHello, mI, mExtS, ni0, ni1]
        exact h
      try (rw [kh]; cbv)
      try (rw [klostVersions]; cbv)
      try (rw [klostTags]; cbv)
      try (rw [m1]; cbv)
      try (rw [kh]; cbv)
      try (rw [klostVersions]; cbv)
      try (rw [klostTags]; cbv)
      try (rw [m2]; cbv)
      try (rw [r1]; cbv)
      try (rw [show not true = false by rw [F.not]; rfl]; cbv)
      try (rw [show not (beq w1 w1) = false by rw [F.not, F.beq]; simp]; cbv)
      try (rw [kh]; cbv)
      try (rw [qh]; cbv)
      try (rw [show not true = false by rw [F.not]; rfl]; cbv)
      try (rw [klostVersions]; cbv)
      try (rw [qlostVersions]; cbv)
      try (rw [show not true = false by rw [F.not]; rfl]; cbv)
      try (rw [klostTags]; cbv)
      try (rw [qlostTags]; cbv)
      try (rw [show not true = false by rw [F.not]; rfl]; cbv)
      try (rw [n1]; cbv)
      try (rw [n2]; cbv)
      try (rw [n3]; cbv)
      try (rw [l1]; cbv)
      try (rw [r1]; cbv)
      try (rw [show not true = false by rw [F.not]; rfl]; cbv)
      try (rw [show not (beq w1 w1) = false by rw [F.not, F.beq]; simp]; cbv)
      try (rw [r2]; cbv)
      try (rw [r3]; cbv)
      try (rw [l2]; cbv)
      try (rw [l3]; cbv)
      try (rw [kh]; cbv)
      try (rw [klostVersions]; cbv)
      try (rw [klostTags]; cbv)
      try (rw [m2]; cbv)
      try (rw [r1]; cbv)
      try (rw [show not true = false by rw [F.not]; rfl]; cbv)
      try (rw [show not (beq w1 w1) = false by rw [F.not, F.beq]; simp]; cbv)
      try (rw [r3]; cbv)
      try (rw [l2]; cbv)
      try (rw [l3]; cbv)
      repeat' (first | (rw [kh]; cbv) | (rw [qh]; cbv) | (rw [klostVersions]; cbv) | (rw [qlostVersions]; cbv) | (rw [klostTags]; cbv) | (rw [qlostTags]; cbv) | (rw [m1]; cbv) | (rw [m2]; cbv) | (rw [r1]; cbv) | (rw [n1]; cbv) | (rw [n2]; cbv) | (rw [n3]; cbv) | (rw [r2]; cbv) | (rw [r3]; cbv) | (rw [l1]; cbv) | (rw [l2]; cbv) | (rw [l3]; cbv) | (rw [F.ne_f rfl]; cbv) | (rw [show not (beq w1 w1) = false by rw [F.not, F.beq]; simp]; cbv) | (rw [show not true = false by rw [F.not]; rfl]; cbv) | (rw [hQ]; cbv; exact congrArg some hr))
  · rcases hi with hi | ⟨ni0, ni1, hi⟩
    · have m1 : o 164 [sHello e1 e2 (.sp 0 0) (.sp 0 1), R e3 (.sp 1 0), R e4 (.sp 2 0)] = some ⟨[sHello [] [] .nl .nl, B w1], [], none⟩ := by rw [ho, he1, he2, he3, he4]; exact hs
      have m2 : o 165 [sHello e1 e2 (.sp 0 0) (.sp 0 1), R e3 (.sp 1 0), R e4 (.sp 2 0)] = some ⟨[sHello g0 g1 (.ow false) (.ow false), B w1], [], none⟩ := by rw [ho, he1, he2, he3, he4]; simp only [hg0, hg1]; exact hi
      have r1 : o 78 [sHello g0 g1 (.sp 0 0) (.sp 0 1), sHello [] [] .nl .nl] = some ⟨[B true], [], none⟩ := by
        have h := ok78 w wm (f0 := (.sp 0 0)) (g0 := .nl) (f1 := (.sp 0 1)) (g1 := .nl) rfl rfl rfl rfl 
        try simp only [ns0, ns1] at h
        rw [ho]
        try simp only [hg0, hg1, ns0, ns1]
        exact h
      have r2 : o 1081 [sHello g0 g1 (.mp 0) (.mp 1), I 1] = some ⟨[I zz], [.row () h0, .row () h1], none⟩ := by
        have h := ok1081 w 1 lr wm
        rw [ho, hzz]
        try simp only [hg0, hg1, hh0, hh1]
        exact h
      have r3 : o 82 [sHello h0 h1 (.sp 0 0) (.sp 0 1), I 1] = some ⟨[I zz], [], none⟩ := by
        have h := ok82 w 1 lr wm (f0 := (.sp 0 0)) (f1 := (.sp 0 1)) rfl rfl 
        rw [ho, hzz]
        try simp only [hh0, hh1]
        exact h
      try (rw [kh]; cbv)
      try (rw [klostVersions]; cbv)
      try (rw [klostTags]; cbv)
      try (rw [m1]; cbv)
      try (rw [kh]; cbv)
      try (rw [klostVersions]; cbv)
      try (rw [klostTags]; cbv)
      try (rw [m2]; cbv)
      try (rw [r1]; cbv)
      try (rw [show not true = false by rw [F.not]; rfl]; cbv)
      try (rw [show not (beq w1 w1) = false by rw [F.not, F.beq]; simp]; cbv)
      try (rw [kh]; cbv)
      try (rw [qh]; cbv)
      try (rw [show not true = false by rw [F.not]; rfl]; cbv)
      try (rw [klostVersions]; cbv)
      try (rw [qlostVersions]; cbv)
      try (rw [show not true = false by rw [F.not]; rfl]; cbv)
      try (rw [klostTags]; cbv)
      try (rw [qlostTags]; cbv)
      try (rw [show not true = false by rw [F.not]; rfl]; cbv)
      try (rw [n1]; cbv)
      try (rw [n2]; cbv)
      try (rw [n3]; cbv)
      try (rw [l1]; cbv)
      try (rw [r1]; cbv)
      try (rw [show not true = false by rw [F.not]; rfl]; cbv)
      try (rw [show not (beq w1 w1) = false by rw [F.not, F.beq]; simp]; cbv)
      try (rw [r2]; cbv)
      try (rw [r3]; cbv)
      try (rw [l2]; cbv)
      try (rw [l3]; cbv)
      try (rw [kh]; cbv)
      try (rw [klostVersions]; cbv)
      try (rw [klostTags]; cbv)
      try (rw [m2]; cbv)
      try (rw [r1]; cbv)
      try (rw [show not true = false by rw [F.not]; rfl]; cbv)
      try (rw [show not (beq w1 w1) = false by rw [F.not, F.beq]; simp]; cbv)
      try (rw [r3]; cbv)
      try (rw [l2]; cbv)
      try (rw [l3]; cbv)
      repeat' (first | (rw [kh]; cbv) | (rw [qh]; cbv) | (rw [klostVersions]; cbv) | (rw [qlostVersions]; cbv) | (rw [klostTags]; cbv) | (rw [qlostTags]; cbv) | (rw [m1]; cbv) | (rw [m2]; cbv) | (rw [r1]; cbv) | (rw [n1]; cbv) | (rw [n2]; cbv) | (rw [n3]; cbv) | (rw [r2]; cbv) | (rw [r3]; cbv) | (rw [l1]; cbv) | (rw [l2]; cbv) | (rw [l3]; cbv) | (rw [F.ne_f rfl]; cbv) | (rw [show not (beq w1 w1) = false by rw [F.not, F.beq]; simp]; cbv) | (rw [show not true = false by rw [F.not]; rfl]; cbv) | (rw [hQ]; cbv; exact congrArg some hr))
    · have m1 : o 164 [sHello e1 e2 (.sp 0 0) (.sp 0 1), R e3 (.sp 1 0), R e4 (.sp 2 0)] = some ⟨[sHello [] [] .nl .nl, B w1], [], none⟩ := by rw [ho, he1, he2, he3, he4]; exact hs
      have m2 : o 165 [sHello e1 e2 (.sp 0 0) (.sp 0 1), R e3 (.sp 1 0), R e4 (.sp 2 0)] = some ⟨[sHello [] [] .nl .nl, B w1], [], none⟩ := by rw [ho, he1, he2, he3, he4]; exact hi
      have r1 : o 78 [sHello [] [] .nl .nl, sHello [] [] .nl .nl] = some ⟨[B true], [], none⟩ := by
        have h := ok78 w wm (f0 := .nl) (g0 := .nl) (f1 := .nl) (g1 := .nl) rfl rfl rfl rfl 
        try simp only [ni0, ni1] at h
        rw [ho]
        try simp only [hg0, hg1, ni0, ni1]
        exact h
      have r2 : o 1081 [sHello [] [] .nl .nl, I 1] = some ⟨[I zz], [], none⟩ := by
        have h := ok1081_nn w 1 lr wm ni0 ni1
        try simp only [wHello, mI, mExtS, ni0, ni1] at h
        rw [ho, hzz]
        try simp only [wHello, mI, mExtS, ni0, ni1]
        exact h
      have r3 : o 82 [sHello [] [] .nl .nl, I 1] = some ⟨[I zz], [], none⟩ := by
        have h := ok82 w 1 lr wm (f0 := .nl) (f1 := .nl) rfl rfl 
        try simp only [wHello, mI, mExtS, ni0, ni1] at h
        rw [ho, hzz]
        try simp only [wHello, mI, mExtS, ni0, ni1]
        exact h
      try (rw [kh]; cbv)
      try (rw [klostVersions]; cbv)
      try (rw [klostTags]; cbv)
      try (rw [m1]; cbv)
      try (rw [kh]; cbv)
      try (rw [klostVersions]; cbv)
      try (rw [klostTags]; cbv)
      try (rw [m2]; cbv)
      try (rw [r1]; cbv)
      try (rw [show not true = false by rw [F.not]; rfl]; cbv)
      try (rw [show not (beq w1 w1) = false by rw [F.not, F.beq]; simp]; cbv)
      try (rw [kh]; cbv)
      try (rw [qh]; cbv)
      try (rw [show not true = false by rw [F.not]; rfl]; cbv)
      try (rw [klostVersions]; cbv)
      try (rw [qlostVersions]; cbv)
      try (rw [show not true = false by rw [F.not]; rfl]; cbv)
      try (rw [klostTags]; cbv)
      try (rw [qlostTags]; cbv)
      try (rw [show not true = false by rw [F.not]; rfl]; cbv)
      try (rw [n1]; cbv)
      try (rw [n2]; cbv)
      try (rw [n3]; cbv)
      try (rw [l1]; cbv)
      try (rw [r1]; cbv)
      try (rw [show not true = false by rw [F.not]; rfl]; cbv)
      try (rw [show not (beq w1 w1) = false by rw [F.not, F.beq]; simp]; cbv)
      try (rw [r2]; cbv)
      try (rw [r3]; cbv)
      try (rw [l2]; cbv)
      try (rw [l3]; cbv)
      try (rw [kh]; cbv)
      try (rw [klostVersions]; cbv)
      try (rw [klostTags]; cbv)
      try (rw [m2]; cbv)
      try (rw [r1]; cbv)
      try (rw [show not true = false by rw [F.not]; rfl]; cbv)
      try (rw [show not (beq w1 w1) = false by rw [F.not, F.beq]; simp]; cbv)
      try (rw [r3]; cbv)
      try (rw [l2]; cbv)
      try (rw [l3]; cbv)
      repeat' (first | (rw [kh]; cbv) | (rw [qh]; cbv) | (rw [klostVersions]; cbv) | (rw [qlostVersions]; cbv) | (rw [klostTags]; cbv) | (rw [qlostTags]; cbv) | (rw [m1]; cbv) | (rw [m2]; cbv) | (rw [r1]; cbv) | (rw [n1]; cbv) | (rw [n2]; cbv) | (rw [n3]; cbv) | (rw [r2]; cbv) | (rw [r3]; cbv) | (rw [l1]; cbv) | (rw [l2]; cbv) | (rw [l3]; cbv) | (rw [F.ne_f rfl]; cbv) | (rw [show not (beq w1 w1) = false by rw [F.not, F.beq]; simp]; cbv) | (rw [show not true = false by rw [F.not]; rfl]; cbv) | (rw [hQ]; cbv; exact congrArg some hr))
theorem ans34 : Answers Tb md 34 [(true, [.row [.int .i64], .row [.int .i64, .row [.int .i64]]]), (false, [.row [.int .i64]]), (false, [.row [.int .i64]])] := answers_of (by
  intro vs h_
  obtain ⟨h, rfl, wh⟩ := fitL_Hello h_
  intro vs h_
  obtain ⟨lostVersions, rfl, wlostVersions⟩ := fitL_R h_
  intro vs h_
  obtain ⟨lostTags, rfl, wlostTags⟩ := fitL_R h_
  exact law34 h wh lostVersions wlostVersions lostTags wlostTags)

end Go.Vm
