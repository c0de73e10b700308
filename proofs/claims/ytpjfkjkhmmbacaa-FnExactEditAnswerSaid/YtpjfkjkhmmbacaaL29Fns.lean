/- What the functions answer. -/
import Derived.Test.YtpjfkjkhmmbacaaL29Tab
set_option maxHeartbeats 4000000
set_option maxRecDepth 10000
set_option linter.unusedVariables false
set_option linter.unusedSimpArgs false
namespace Go.Vm

/-- a number so many places behind k -/
def AtK (x k : Int) (n : Nat) : Prop := x = k + (n : Int)
def Lim (k : Int) (n : Nat) : Prop := 0 ≤ k ∧ k + (n : Int) ≤ 4611686018427387904
theorem AtK.zero {k : Int} : AtK k k 0 := by unfold AtK; simp
theorem AtK.one {x k : Int} {n : Nat} (h : AtK x k n) : AtK (x + 1) k (n + 1) := by unfold AtK at *; omega
theorem AtK.plus {x k : Int} {n m : Nat} (h : AtK x k n) : AtK (x + (m : Int)) k (n + m) := by unfold AtK at *; omega
theorem AtK.eq {x k : Int} {n m : Nat} (h : AtK x k n) (e : n = m) : AtK x k m := e ▸ h
theorem AtK.same {x k : Int} {n : Nat} (h : AtK x k n) : x = k + (n : Int) := h
theorem AtK.lim {x k : Int} {n m q : Nat} (h : AtK x k n) (l : Lim k q) (e : n + m ≤ q) : Lim x m := by unfold AtK Lim at *; omega
theorem Lim.nn {k : Int} {n : Nat} (l : Lim k n) : 0 ≤ k := l.1
theorem AtK.inc {x k : Int} {n q : Nat} (h : AtK x k n) (l : Lim k q) (e : n ≤ q) : IntKind.wrap .i64 (x + 1) = x + 1 := by unfold AtK Lim at *; exact wrap64 (by omega) (by omega)
theorem Lim.le {k : Int} {n m : Nat} (l : Lim k n) (e : m ≤ n) : Lim k m := by unfold Lim at *; omega
theorem sum_le {α : Type} {c : α → Nat} {B : Nat} : ∀ {l : List α}, (∀ y ∈ l, c y ≤ B) → (l.map c).sum ≤ l.length * B
  | [], _ => by simp
  | x :: l, h => by
    have h1 := h x (by simp)
    have h2 := sum_le (l := l) (fun y hy => h y (by simp [hy]))
    simp only [List.map_cons, List.sum_cons, List.length_cons, Nat.succ_mul]
    omega
theorem Lim.of1 {n : Nat} (h : n ≤ 4611686018427387903) : Lim 1 n := ⟨by decide, by omega⟩
/-- numbers written into a row from k on -/
def mI : List Int → Int → List Int
  | [], _ => []
  | _ :: l, k => k :: mI l (k + 1)
theorem mI_len : ∀ (l : List Int) (k : Int), (mI l k).length = l.length
  | [], _ => rfl
  | _ :: l, k => by simp [mI, mI_len l (k + 1)]
theorem mI_app : ∀ (a b : List Int) (k x : Int), AtK x k a.length → mI (a ++ b) k = mI a k ++ mI b x
  | [], b, k, x, h => by simp [AtK] at h; subst h; simp [mI]
  | y :: a, b, k, x, h => by
    simp only [List.cons_append, mI]
    rw [mI_app a b (k + 1) x (by unfold AtK at *; simp at h; omega)]
theorem set_fld {α : Type} {pre suf : List α} {f : α → List V} {k : Nat} {x y : α} {j : Nat} {v : V} {ix : Nat} (hk : ∀ a, (f a).length = k) (hj : j < k) (hy : f y = (f x).set j v) (hix : ix = pre.length * k) : setFlat (row f (pre ++ x :: suf)) (ix + j) [v] = some (row f (pre ++ y :: suf)) := by
  have := set_raw (k := k) [v] j (row f pre) (f x) (row f suf) (by intro a ha; obtain ⟨b, _, rfl⟩ := List.mem_map.1 ha; exact hk b) (hk x) (by simp; omega)
  rw [row_len] at this
  subst hix
  rw [show row f (pre ++ x :: suf) = row f pre ++ f x :: row f suf by simp [row], this]
  have e : (f x).take j ++ [v] ++ (f x).drop (j + [v].length) = f y := by
    rw [hy, List.set_eq_take_append_cons_drop, if_pos (by rw [hk]; exact hj)]; simp
  rw [e]
  simp [row]

/- laws.markIntS -/
theorem ok1080 (l : List Int) (k : Int) (hk : Lim k l.length) (hl : l.length ≤ 1099511627776) : fix Tb md 1080 [R (row fI l) (.mp 0), I k] = some ⟨[I (k + (l.length : Int))], [.row () (row fI (mI l k))], none⟩ := by
  obtain ⟨t, ht⟩ : ∃ y_, y_ = k + (l.length : Int) := ⟨_, rfl⟩
  obtain ⟨et, het⟩ : ∃ y_, y_ = row fI (mI l k) := ⟨_, rfl⟩
  have hT : AtK t k l.length := ht
  rw [← ht, ← het]
  clear ht
  refine fix_fn (fn := ir1080) tb_1080 rfl rfl (by decide) rfl ?_
  generalize hr : (⟨_, [_], none⟩ : Ret) = r
  obtain ⟨ea, hea⟩ : ∃ y_, y_ = row fI l := ⟨_, rfl⟩
  rw [← hea]
  intro add sub mul arith eq ne lt le gt ge neg conv mn mx not beq len at' ln bd cut app allS isNil mks set o hP F ho
  have la := F.len_at hea
  cbv
  refine loop_ind hP (σ := List Int × List Int × List (List V) × Int × Int) (fun s => [(0, R s.2.2.1 (.mp 0)), (1, I s.2.2.2.1), (4, I 0), (5, I s.2.2.2.2)])
    (fun s => At s.2.2.2.2 s.2.1.length ∧ AtK s.2.2.2.1 k s.2.1.length ∧ l = s.2.1 ++ s.1 ∧ s.2.2.1 = row fI (mI s.2.1 k ++ s.1)) (fun s => s.1.length) (l, [], ea, k, 0) rfl ⟨rfl, AtK.zero, rfl, by simpa [mI] using hea⟩ ?_
  rintro ⟨suf, pre, eo, x, i⟩ ⟨hi, hx, hl', heo⟩ ih
  simp only at hi hx hl' heo ih
  have lo := F.len_at heo
  cbv
  cases suf with
  | nil =>
    rw [F.lt_f hi lo (by simp [mI_len])]; cbv
    rw [← hr, show x = t by rw [hx.same, hT.same, hl']; simp, heo, het, hl']; simp
  | cons y suf =>
    have hl3 : pre.length + 1 ≤ l.length := by rw [hl']; simp
    have a1 : add .i64 x 1 = x + 1 := by rw [F.add, hx.inc hk (by omega)]
    rw [F.lt_t hi lo (by simp [mI_len])]; cbv
    obtain ⟨ix, hix⟩ : ∃ y_, y_ = pre.length * 1 := ⟨_, rfl⟩
    rw [show at' 1 eo i = some (ix, [.int .i64 y]) by rw [hix]; have h := F.get (f := fI) (k := 1) (show At i (mI pre k).length by rw [mI_len]; exact hi) heo rfl (fun _ => rfl) (by decide); rw [mI_len] at h; exact h]; cbv
    obtain ⟨eo', heo'⟩ : ∃ y_, y_ = row fI (mI pre k ++ x :: suf) := ⟨_, rfl⟩
    rw [show set eo ix [.int .i64 x] = some eo' by rw [F.set, heo, hix, heo', ← mI_len pre k]; exact set_one (fun _ => rfl) rfl]; cbv
    rw [a1]
    refine ih (suf, pre ++ [y], eo', x + 1, add .i64 i 1) ⟨at_len (F.inc hi (by omega)) (by simp), hx.one.eq (by simp), by simp [hl'], ?_⟩ (by simp)
    simp only
    rw [heo', mI_app pre [y] k x hx]; simp [mI]
theorem ok1080n (k : Int) : fix Tb md 1080 [R [] .nl, I k] = some ⟨[I k], [], none⟩ := by
  refine fix_fn (fn := ir1080) tb_1080 rfl rfl (by decide) rfl ?_
  generalize hr : (⟨_, [], none⟩ : Ret) = r
  intro add sub mul arith eq ne lt le gt ge neg conv mn mx not beq len at' ln bd cut app allS isNil mks set o hP F ho
  have la : At (len []) 0 := F.len_at (f := fI) (l := []) rfl
  have h0 : lt 0 (len []) = false := F.lt_f at0 la (Nat.le_refl 0)
  cbv
  refine loop_ind hP (σ := Unit) (fun _ => [(0, R [] .nl), (1, I k), (4, I 0), (5, I 0)]) (fun _ => True) (fun _ => 0) () rfl trivial ?_
  rintro ⟨⟩ _ ih
  clear ih
  cbv
  rw [h0]; cbv
  exact congrArg some hr

def mExt (x : Ext) (k : Int) : Ext := ⟨k, mI x.body (k + 1)⟩
def cExt (x : Ext) : Nat := 1 + x.body.length
def mExtS : List Ext → Int → List Ext
  | [], _ => []
  | x :: l, k => mExt x k :: mExtS l (k + (cExt x : Int))
def cExtS (l : List Ext) : Nat := (l.map cExt).sum
theorem mExtS_len : ∀ (l : List Ext) (k : Int), (mExtS l k).length = l.length
  | [], _ => rfl
  | _ :: l, k => by simp [mExtS, mExtS_len l _]
theorem mExtS_app : ∀ (a b : List Ext) (k x : Int), AtK x k (cExtS a) → mExtS (a ++ b) k = mExtS a k ++ mExtS b x
  | [], b, k, x, h => by simp [AtK, cExtS] at h; subst h; simp [mExtS]
  | y :: a, b, k, x, h => by
    simp only [List.cons_append, mExtS]
    rw [mExtS_app a b (k + (cExt y : Int)) x (by unfold AtK at *; simp [cExtS] at h ⊢; omega)]
theorem cExt_mid {x : Ext} (w : x.Mid) : cExt x ≤ 2147483650 := by unfold Ext.Mid at w; unfold cExt; omega
theorem cExt_small {x : Ext} (w : x.Small) : cExt x ≤ 2097154 := by unfold Ext.Small at w; unfold cExt; omega
theorem cExtS_mid {l : List Ext} (w : l.length ≤ 1073741824 ∧ ∀ y ∈ l, y.Mid) : cExtS l ≤ 2305843011361177600 :=
  Nat.le_trans (sum_le fun y hy => cExt_mid (w.2 y hy)) (Nat.mul_le_mul_right _ w.1)
theorem cExtS_small {l : List Ext} (w : l.length ≤ 1048576 ∧ ∀ y ∈ l, y.Small) : cExtS l ≤ 2199025352704 :=
  Nat.le_trans (sum_le fun y hy => cExt_small (w.2 y hy)) (Nat.mul_le_mul_right _ w.1)

/- laws.markExtS -/
set_option maxHeartbeats 2000000 in
theorem ok1201 (l : List Ext) (k : Int) (hk : Lim k (cExtS l)) (hl : l.length ≤ 1099511627776) (w0 : ∀ y ∈ l, y.body.length ≤ 1099511627776) : fix Tb md 1201 [R (row fExt l) (.mp 0), I k] = some ⟨[I (k + (cExtS l : Int))], [.row () (row fExt (mExtS l k))], none⟩ := by
  obtain ⟨t, ht⟩ : ∃ y_, y_ = k + (cExtS l : Int) := ⟨_, rfl⟩
  obtain ⟨et, het⟩ : ∃ y_, y_ = row fExt (mExtS l k) := ⟨_, rfl⟩
  have hT : AtK t k (cExtS l) := ht
  rw [← ht, ← het]
  clear ht
  refine fix_fn (fn := ir1201) tb_1201 rfl rfl (by decide) rfl ?_
  generalize hr : (⟨_, [_], none⟩ : Ret) = r
  obtain ⟨ea, hea⟩ : ∃ y_, y_ = row fExt l := ⟨_, rfl⟩
  rw [← hea]
  intro add sub mul arith eq ne lt le gt ge neg conv mn mx not beq len at' ln bd cut app allS isNil mks set o hP F ho
  cbv
  refine loop_ind hP (σ := List Ext × List Ext × List (List V) × Int × Int) (fun s => [(0, R s.2.2.1 (.mp 0)), (1, I s.2.2.2.1), (4, I 0), (5, I s.2.2.2.2)])
    (fun s => At s.2.2.2.2 s.2.1.length ∧ AtK s.2.2.2.1 k (cExtS s.2.1) ∧ l = s.2.1 ++ s.1 ∧ s.2.2.1 = row fExt (mExtS s.2.1 k ++ s.1)) (fun s => s.1.length) (l, [], ea, k, 0) rfl ⟨rfl, AtK.zero, rfl, by simpa [mExtS] using hea⟩ ?_
  rintro ⟨suf, pre, eo, z0, i⟩ ⟨hi, a0, hl', heo⟩ ih
  simp only at hi a0 hl' heo ih
  have lo := F.len_at heo
  cbv
  cases suf with
  | nil =>
    rw [F.lt_f hi lo (by simp [mExtS_len])]; cbv
    rw [← hr, show z0 = t by rw [a0.same, hT.same, hl']; simp, heo, het, hl']; simp
  | cons x suf =>
    have hl3 : pre.length + 1 ≤ l.length := by rw [hl']; simp
    have hc : cExtS l = cExtS pre + (cExt x + cExtS suf) := by rw [hl']; simp [cExtS]
    have hcx : cExt x = 1 + x.body.length := rfl
    obtain ⟨z1, hz1⟩ : ∃ y_, y_ = z0 + 1 := ⟨_, rfl⟩
    have a1 : AtK z1 k (cExtS pre + 1) := hz1 ▸ a0.one
    have s1 : add .i64 z0 1 = z1 := by rw [F.add, a0.inc hk (by omega), hz1]
    obtain ⟨z2, hz2⟩ : ∃ y_, y_ = z1 + (x.body.length : Int) := ⟨_, rfl⟩
    have a2 : AtK z2 k (cExtS pre + 1 + x.body.length) := hz2 ▸ a1.plus
    have m2 : Lim z1 x.body.length := a1.lim hk (by omega)
    have n2 : 0 ≤ z2 := by have := m2.nn; omega
    have hmx : mExt x z0 = (⟨z0, (mI x.body z1)⟩ : Ext) := by simp only [mExt, hz1, hz2]
    have hzn : z0 + (cExt x : Int) = z2 := by rw [hcx, a2.same, a0.same]; omega
    have y0 : x.body.length ≤ 1099511627776 := w0 x (by rw [hl']; simp)
    obtain ⟨e1, he1⟩ : ∃ y_, y_ = row fI x.body := ⟨_, rfl⟩
    obtain ⟨g1, hg1⟩ : ∃ y_, y_ = row fI (mI x.body z1) := ⟨_, rfl⟩
    rw [F.lt_t hi lo (by simp [mExtS_len])]; cbv
    obtain ⟨ix, hix⟩ : ∃ y_, y_ = pre.length * 2 := ⟨_, rfl⟩
    obtain ⟨eo1, heo1⟩ : ∃ y_, y_ = row fExt (mExtS pre k ++ (⟨z0, x.body⟩ : Ext) :: suf) := ⟨_, rfl⟩
    obtain ⟨eo2, heo2⟩ : ∃ y_, y_ = row fExt (mExtS pre k ++ (⟨z0, (mI x.body z1)⟩ : Ext) :: suf) := ⟨_, rfl⟩
    rw [show at' 2 eo i = some (ix, [.int .i64 x.tag, .row () e1]) by simp only [hix, he1, hg1]; have h := F.get (f := fExt) (k := 2) (show At i (mExtS pre k).length by rw [mExtS_len]; exact hi) heo rfl (fun _ => rfl) (by decide); rw [mExtS_len] at h; exact h]; cbv
    have q0 : setFlat eo (ix + 0) [.int .i64 z0] = some eo1 := by simp only [heo, heo1, he1, hg1]; exact set_fld (k := 2) (fun _ => rfl) (by decide) (by simp [fExt]) (by rw [hix, mExtS_len])
    first | rw [show set eo (ix + 0) [.int .i64 z0] = some eo1 by rw [F.set]; exact q0] | rw [show set eo (Nat.add ix 0) [.int .i64 z0] = some eo1 by rw [F.set]; exact q0] | rw [show set eo ix [.int .i64 z0] = some eo1 by rw [F.set]; exact q0] | trace_state
    cbv
    rw [s1]
    rw [show at' 2 eo1 i = some (ix, [.int .i64 z0, .row () e1]) by simp only [hix, he1, hg1]; have h := F.get (f := fExt) (k := 2) (show At i (mExtS pre k).length by rw [mExtS_len]; exact hi) heo1 rfl (fun _ => rfl) (by decide); rw [mExtS_len] at h; exact h]; cbv
    have c1 : o 1080 [R e1 (.mp 0), I z1] = some ⟨[I z2], [.row () g1], none⟩ := by rw [ho, he1, hg1, hz2]; exact ok1080 _ _ m2 y0
    rw [c1]; cbv
    have q1 : setFlat eo1 (ix + 1) [.row () g1] = some eo2 := by simp only [heo1, heo2, he1, hg1]; exact set_fld (k := 2) (fun _ => rfl) (by decide) (by simp [fExt]) (by rw [hix, mExtS_len])
    first | rw [show set eo1 (ix + 1) [.row () g1] = some eo2 by rw [F.set]; exact q1] | rw [show set eo1 (Nat.add ix 1) [.row () g1] = some eo2 by rw [F.set]; exact q1] | rw [show set eo1 ix [.row () g1] = some eo2 by rw [F.set]; exact q1] | trace_state
    cbv
    refine ih (suf, pre ++ [x], eo2, z2, add .i64 i 1) ⟨at_len (F.inc hi (by omega)) (by simp), a2.eq (by simp [cExtS, cExt] <;> omega), by simp [hl'], ?_⟩ (by simp)
    simp only
    rw [heo2, mExtS_app pre [x] k z0 a0, ← hmx]; simp [mExtS]
theorem ok1201n (k : Int) : fix Tb md 1201 [R [] .nl, I k] = some ⟨[I k], [], none⟩ := by
  refine fix_fn (fn := ir1201) tb_1201 rfl rfl (by decide) rfl ?_
  generalize hr : (⟨_, [], none⟩ : Ret) = r
  intro add sub mul arith eq ne lt le gt ge neg conv mn mx not beq len at' ln bd cut app allS isNil mks set o hP F ho
  have la : At (len []) 0 := F.len_at (f := fExt) (l := []) rfl
  have h0 : lt 0 (len []) = false := F.lt_f at0 la (Nat.le_refl 0)
  cbv
  refine loop_ind hP (σ := Unit) (fun _ => [(0, R [] .nl), (1, I k), (4, I 0), (5, I 0)]) (fun _ => True) (fun _ => 0) () rfl trivial ?_
  rintro ⟨⟩ _ ih
  clear ih
  cbv
  rw [h0]; cbv
  exact congrArg some hr

def wAnswer (x : Answer) (k : Int) : Answer := ⟨x.version, mExtS x.exts k⟩
def nAnswer (x : Answer) : Nat := cExtS x.exts
theorem nAnswer_mid {x : Answer} (w : x.Mid) : nAnswer x ≤ 2305843016730000000 := by unfold Answer.Mid at w; have h0 := cExtS_mid (show _ from w); unfold nAnswer; omega
theorem nAnswer_small {x : Answer} (w : x.Small) : nAnswer x ≤ 2199100000000 := by unfold Answer.Small at w; have h0 := cExtS_small (show _ from w); unfold nAnswer; omega

/- laws.markAnswer -/
theorem ok1153 (x : Answer) (k : Int) (hk : Lim k (nAnswer x)) (w : x.Mid) : fix Tb md 1153 [sAnswer x.version (row fExt x.exts) (.mp 0), I k] = some ⟨[I (k + (nAnswer x : Int))], [.row () (row fExt (wAnswer x k).exts)], none⟩ := by
  have hn : nAnswer x = cExtS x.exts := rfl
  unfold Answer.Mid at w
  have a0 : AtK k k 0 := AtK.zero
  obtain ⟨z1, hz1⟩ : ∃ y_, y_ = k + (cExtS x.exts : Int) := ⟨_, rfl⟩
  have a1 : AtK z1 k (0 + cExtS x.exts) := hz1 ▸ a0.plus
  have m1 : Lim k (cExtS x.exts) := a0.lim hk (by omega)
  have n1 : 0 ≤ z1 := by have := m1.nn; omega
  rw [show k + (nAnswer x : Int) = z1 by rw [a1.same, hn]; simp]
  have x0 : (wAnswer x k).exts = mExtS x.exts k := by simp only [wAnswer, hz1]
  rw [x0]
  obtain ⟨g0, hg0⟩ : ∃ y_, y_ = row fExt (mExtS x.exts k) := ⟨_, rfl⟩
  obtain ⟨e0, he0⟩ : ∃ y_, y_ = row fExt x.exts := ⟨_, rfl⟩
  rw [← hg0, ← he0]
  refine fix_fn (fn := ir1153) tb_1153 rfl rfl (by decide) rfl ?_
  generalize hr : (⟨_, [_], none⟩ : Ret) = r
  intro add sub mul arith eq ne lt le gt ge neg conv mn mx not beq len at' ln bd cut app allS isNil mks set o hP F ho
  have c1 : o 1201 [R e0 (.mp 0), I k] = some ⟨[I z1], [.row () g0], none⟩ := by rw [ho, hz1, hg0, he0]; exact ok1201 _ _ m1 (Nat.le_trans w.1 (by decide)) (fun y hy => Nat.le_trans ((w.2 y hy)) (by decide))
  cbv
  rw [c1]; cbv
  exact congrArg some hr
theorem ok1153_n (x : Answer) (k : Int) (hk : Lim k (nAnswer x)) (w : x.Mid) (y0 : x.exts = []) : fix Tb md 1153 [sAnswer x.version (row fExt x.exts) .nl, I k] = some ⟨[I (k + (nAnswer x : Int))], [], none⟩ := by
  have hn : nAnswer x = cExtS x.exts := rfl
  unfold Answer.Mid at w
  have a0 : AtK k k 0 := AtK.zero
  obtain ⟨z1, hz1⟩ : ∃ y_, y_ = k + (cExtS x.exts : Int) := ⟨_, rfl⟩
  have a1 : AtK z1 k (0 + cExtS x.exts) := hz1 ▸ a0.plus
  have m1 : Lim k (cExtS x.exts) := a0.lim hk (by omega)
  have n1 : 0 ≤ z1 := by have := m1.nn; omega
  rw [show k + (nAnswer x : Int) = z1 by rw [a1.same, hn]; simp]
  have x0 : (wAnswer x k).exts = mExtS x.exts k := by simp only [wAnswer, hz1]
  have e0 : row fExt x.exts = [] := by rw [y0]; rfl
  rw [e0]
  refine fix_fn (fn := ir1153) tb_1153 rfl rfl (by decide) rfl ?_
  generalize hr : (⟨_, [], none⟩ : Ret) = r
  intro add sub mul arith eq ne lt le gt ge neg conv mn mx not beq len at' ln bd cut app allS isNil mks set o hP F ho
  have c1 : o 1201 [R [] .nl, I k] = some ⟨[I z1], [], none⟩ := by rw [ho, show z1 = k by rw [hz1, y0]; simp [cExtS]]; exact ok1201n _
  cbv
  rw [c1]; cbv
  exact congrArg some hr

/- spec.l1In -/
theorem ok230 (n lo hi : Int) : fix Tb md 230 [I n, I lo, I hi] = some ⟨[B (inR n lo hi)], [], none⟩ := by
  refine fix_fn (fn := ir230) tb_230 rfl rfl (by decide) rfl ?_; simp only [shutArgs, shutS, List.map_cons, List.map_nil, ir230, List.head?_nil, reduceCtorEq, if_false, sExt, sHello, sAnswer, sEdit, sDeal, sBox, sDialed, sKnown]
  generalize hr : (⟨_, [], none⟩ : Ret) = r
  intro add sub mul arith eq ne lt le gt ge neg conv mn mx not beq len at' ln bd cut app allS isNil mks set o hP F ho
  cbv
  repeat' (refine both (fun c => ?_) (fun c => ?_) <;> (try rw [c]) <;> (try cbv))
  all_goals (simp only [F.le, F.ge, F.lt, F.gt] at *; subst hr; (try simp_all [inR]) <;> (try omega))

def sel {α β : Type} (P : α → Bool) (g : α → β) (l : List α) : List β := (l.filter P).map g
theorem sel_t {α β : Type} {P : α → Bool} {g : α → β} {a : List α} {x : α} (h : P x = true) : sel P g (a ++ [x]) = sel P g a ++ [g x] := by unfold sel; rw [List.filter_append, List.filter_cons, h]; simp
theorem sel_f {α β : Type} {P : α → Bool} {g : α → β} {a : List α} {x : α} (h : P x = false) : sel P g (a ++ [x]) = sel P g a := by unfold sel; rw [List.filter_append, List.filter_cons, h]; simp
theorem sel_len {α β : Type} {P : α → Bool} {g : α → β} {a : List α} : (sel P g a).length ≤ a.length := by unfold sel; rw [List.length_map]; exact List.length_filter_le _ _
def hasI (l : List Int) (n : Int) : Bool := l.any fun y => decide (y = n)
def idE (e : Ext) : Ext := e
def idI (n : Int) : Int := n
theorem sel_idE {P : Ext → Bool} {l : List Ext} : sel P idE l = l.filter P := by unfold sel idE; simp
theorem sel_idI {P : Int → Bool} {l : List Int} : sel P idI l = l.filter P := by unfold sel idI; simp

/- spec.TagsOf -/
def yesE (_ : Ext) : Bool := true
theorem ok280 (l : List Ext) (hl : l.length ≤ 1073741824) {f0 : Fl} (h0 : inFl f0 = true) : fix Tb md 280 [R (row fExt l) f0] = some ⟨[R (row fI (sel yesE Ext.tag l)) (.ow false)], [], none⟩ := by
  obtain ⟨et, het⟩ : ∃ y_, y_ = row fI (sel yesE Ext.tag l) := ⟨_, rfl⟩
  rw [← het]
  generalize hr : (⟨_, [], none⟩ : Ret) = r
  obtain ⟨ea, hea⟩ : ∃ y_, y_ = row fExt l := ⟨_, rfl⟩
  rw [← hea]
  refine fix_fn2 (fn := ir280) tb_280 rfl rfl (by decide) rfl ?_; intro Q hQ; simp only [shutArgs, shutS, List.map_cons, List.map_nil, ir280, shut_in h0, List.head?_nil, reduceCtorEq, if_false, sExt, sHello, sAnswer, sEdit, sDeal, sBox, sDialed, sKnown]
  intro add sub mul arith eq ne lt le gt ge neg conv mn mx not beq len at' ln bd cut app allS isNil mks set o hP F ho
  have la := F.len_at hea
  cbv
  refine loop_ind2 hP (σ := List Ext × List Ext × List (List V) × Int) (fun s => [(0, R ea .sh), (2, R [] .nl), (3, R s.2.2.1 (.ow false)), (4, I s.2.2.2)]) (fun s => At s.2.2.2 s.2.1.length ∧ l = s.2.1 ++ s.1 ∧ s.2.2.1 = row fI (sel yesE Ext.tag s.2.1)) (fun s => s.1.length) (l, [], [], 0) rfl ⟨rfl, rfl, rfl⟩ ?_
  intro c1 Q1 hc1 hQ1
  rintro ⟨suf, pre, eo, i⟩ ⟨hi, hl', hb⟩ ih
  simp only at hi hl' hb ih
  cbv
  cases suf with
  | nil =>
    rw [F.lt_f hi la (by simp [hl'])]; cbv
    rw [hQ1]; cbv
    rw [hQ]; cbv
    rw [← hr, het, hb, hl', List.append_nil]
  | cons x suf =>
    obtain ⟨ix, hix⟩ : ∃ y_, y_ = pre.length * 2 := ⟨_, rfl⟩
    have hpre : pre.length ≤ 1073741824 := by rw [hl'] at hl; simp at hl; omega
    have hs : (sel yesE Ext.tag pre).length ≤ pre.length := sel_len
    have hi' : At (add .i64 i 1) (pre ++ [x]).length := at_len (F.inc hi (by omega)) (by simp)
    have hl2 : l = (pre ++ [x]) ++ suf := by rw [hl']; simp
    have hmem : x ∈ l := by rw [hl']; simp
    obtain ⟨e1, he1⟩ : ∃ y_, y_ = row fI x.body := ⟨_, rfl⟩
    have p0 : at' 2 ea i = some (ix, [.int .i64 x.tag, .row () e1]) := by rw [hix, he1]; exact F.get hi hea hl' (fun _ => rfl) (by decide)
    rw [F.lt_t hi la (by simp [hl'])]; cbv
    rw [p0]; cbv
    rw [show allS [[.int .i64 x.tag]] = true by rw [F.allS]; rfl]; cbv
    obtain ⟨eo', heo'⟩ : ∃ y_, y_ = row fI (sel yesE Ext.tag pre ++ [Ext.tag x]) := ⟨_, rfl⟩
    rw [show app 1 eo [[.int .i64 x.tag]] = some eo' by rw [heo']; exact F.push hb (fun _ => rfl) rfl (by omega)]; cbv
    refine ih (suf, pre ++ [x], eo', add .i64 i 1) ⟨hi', hl2, by simp only; rw [heo', sel_t rfl]⟩ (by simp)

/- spec.l9Has -/
theorem ok285 (l : List Int) (n : Int) (hl : l.length ≤ 1099511627776) {f0 : Fl} (h0 : inFl f0 = true) : fix Tb md 285 [R (row fI l) f0, I n] = some ⟨[B (hasI l n)], [], none⟩ := by
  obtain ⟨T, hT⟩ : ∃ y_, y_ = hasI l n := ⟨_, rfl⟩
  rw [← hT]
  generalize hr : (⟨_, [], none⟩ : Ret) = r
  obtain ⟨ea, hea⟩ : ∃ y_, y_ = row fI l := ⟨_, rfl⟩
  rw [← hea]
  refine fix_fn2 (fn := ir285) tb_285 rfl rfl (by decide) rfl ?_; intro Q hQ; simp only [shutArgs, shutS, List.map_cons, List.map_nil, ir285, shut_in h0, List.head?_nil, reduceCtorEq, if_false, sExt, sHello, sAnswer, sEdit, sDeal, sBox, sDialed, sKnown]
  intro add sub mul arith eq ne lt le gt ge neg conv mn mx not beq len at' ln bd cut app allS isNil mks set o hP F ho
  have la := F.len_at hea
  cbv
  refine loop_ind2 hP (σ := List Int × List Int × Int) (fun s => [(0, R ea .sh), (1, I n), (4, B false), (5, I s.2.2)]) (fun s => At s.2.2 s.2.1.length ∧ l = s.2.1 ++ s.1 ∧ hasI s.1 n = T) (fun s => s.1.length) (l, [], 0) rfl ⟨rfl, rfl, hT.symm⟩ ?_
  intro c1 Q1 hc1 hQ1
  rintro ⟨suf, pre, i⟩ ⟨hi, hl', hb⟩ ih
  simp only at hi hl' hb ih
  cbv
  cases suf with
  | nil =>
    rw [F.lt_f hi la (by simp [hl'])]; cbv
    rw [hQ1]; cbv
    rw [hQ]; cbv
    rw [← hr, ← hb]; rfl
  | cons x suf =>
    obtain ⟨v, hv⟩ : ∃ y_, y_ = decide (x = n) := ⟨_, rfl⟩
    have hT' : T = (v || hasI suf n) := by rw [← hb, hv]; rfl
    obtain ⟨ix, hix⟩ : ∃ y_, y_ = pre.length * 1 := ⟨_, rfl⟩
    rw [F.lt_t hi la (by simp [hl'])]; cbv
    rw [show at' 1 ea i = some (ix, [.int .i64 x]) by rw [hix]; exact F.get hi hea hl' (fun _ => rfl) (by decide)]; cbv
    rw [show eq x n = v by rw [F.eq, hv]]; cbv
    refine both (fun d => ?_) (fun d => ?_) <;> rw [d] <;> cbv
    · rw [hQ1]; cbv
      rw [hQ]; cbv
      rw [← hr, hT', d]; rfl
    · refine ih (suf, pre ++ [x], add .i64 i 1) ⟨at_len (F.inc hi (by simp [hl'] at hl; omega)) (by simp), by simp [hl'], ?_⟩ (by simp)
      rw [hT', d]; rfl

/- spec.KnownOf -/
def tagIn (b : List Int) (e : Ext) : Bool := hasI b e.tag
theorem ok307 (l : List Ext) (b : List Int) (hl : l.length ≤ 1073741824) (hb' : b.length ≤ 1073741824) (w : ∀ y ∈ l, y.body.length ≤ 1099511627776) {f0 f1 : Fl} (h0 : inFl f0 = true) (h1 : inFl f1 = true) : fix Tb md 307 [R (row fExt l) f0, R (row fI b) f1] = some ⟨[R (row fExt (sel (tagIn b) idE l)) (.ow false)], [], none⟩ := by
  obtain ⟨et, het⟩ : ∃ y_, y_ = row fExt (sel (tagIn b) idE l) := ⟨_, rfl⟩
  rw [← het]
  generalize hr : (⟨_, [], none⟩ : Ret) = r
  obtain ⟨ea, hea⟩ : ∃ y_, y_ = row fExt l := ⟨_, rfl⟩
  obtain ⟨eb, heb⟩ : ∃ y_, y_ = row fI b := ⟨_, rfl⟩
  rw [← hea, ← heb]
  refine fix_fn2 (fn := ir307) tb_307 rfl rfl (by decide) rfl ?_; intro Q hQ; simp only [shutArgs, shutS, List.map_cons, List.map_nil, ir307, shut_in h0, shut_in h1, List.head?_nil, reduceCtorEq, if_false, sExt, sHello, sAnswer, sEdit, sDeal, sBox, sDialed, sKnown]
  intro add sub mul arith eq ne lt le gt ge neg conv mn mx not beq len at' ln bd cut app allS isNil mks set o hP F ho
  have la := F.len_at hea
  cbv
  refine loop_ind2 hP (σ := List Ext × List Ext × List (List V) × Int) (fun s => [(0, R ea .sh), (1, R eb .sh), (4, R [] .nl), (5, R s.2.2.1 (.ow false)), (6, I s.2.2.2)]) (fun s => At s.2.2.2 s.2.1.length ∧ l = s.2.1 ++ s.1 ∧ s.2.2.1 = row fExt (sel (tagIn b) idE s.2.1)) (fun s => s.1.length) (l, [], [], 0) rfl ⟨rfl, rfl, rfl⟩ ?_
  intro c1 Q1 hc1 hQ1
  rintro ⟨suf, pre, eo, i⟩ ⟨hi, hl', hb⟩ ih
  simp only at hi hl' hb ih
  cbv
  cases suf with
  | nil =>
    rw [F.lt_f hi la (by simp [hl'])]; cbv
    rw [hQ1]; cbv
    rw [hQ]; cbv
    rw [← hr, het, hb, hl', List.append_nil]
  | cons x suf =>
    obtain ⟨ix, hix⟩ : ∃ y_, y_ = pre.length * 2 := ⟨_, rfl⟩
    have hpre : pre.length ≤ 1073741824 := by rw [hl'] at hl; simp at hl; omega
    have hs : (sel (tagIn b) idE pre).length ≤ pre.length := sel_len
    have hi' : At (add .i64 i 1) (pre ++ [x]).length := at_len (F.inc hi (by omega)) (by simp)
    have hl2 : l = (pre ++ [x]) ++ suf := by rw [hl']; simp
    have hmem : x ∈ l := by rw [hl']; simp
    obtain ⟨e1, he1⟩ : ∃ y_, y_ = row fI x.body := ⟨_, rfl⟩
    have hx := w x hmem
    have p0 : at' 2 ea i = some (ix, [.int .i64 x.tag, .row () e1]) := by rw [hix, he1]; exact F.get hi hea hl' (fun _ => rfl) (by decide)
    obtain ⟨v, hv⟩ : ∃ y_, y_ = tagIn b x := ⟨_, rfl⟩
    have c2 : o 285 [R eb (.sp 0 0), I x.tag] = some ⟨[B v], [], none⟩ := by rw [ho, hv, heb]; exact ok285 _ _ (by omega) rfl
    rw [F.lt_t hi la (by simp [hl'])]; cbv
    rw [p0]; cbv
    rw [c2]; cbv
    refine both (fun d => ?_) (fun d => ?_) <;> rw [d] <;> cbv
    · rw [p0]; cbv
      rw [p0]; cbv
      rw [show allS e1 = true from F.scal he1 (fun _ => rfl)]; cbv
      rw [F.app_nil he1 (fun _ => rfl) hx]; cbv
      rw [show allS [[.int .i64 x.tag, .row () e1]] = false by rw [F.allS]; rfl]; cbv
      obtain ⟨eo', heo'⟩ : ∃ y_, y_ = row fExt (sel (tagIn b) idE pre ++ [idE x]) := ⟨_, rfl⟩
      rw [show app 2 eo [[.int .i64 x.tag, .row () e1]] = some eo' by rw [heo', he1]; exact F.push hb (fun _ => rfl) rfl (by omega)]; cbv
      refine ih (suf, pre ++ [x], eo', add .i64 i 1) ⟨hi', hl2, by simp only; rw [heo', sel_t (by rw [← hv, d])]⟩ (by simp)
    · refine ih (suf, pre ++ [x], eo, add .i64 i 1) ⟨hi', hl2, by simp only; rw [hb, sel_f (by rw [← hv, d])]⟩ (by simp)

/- spec.l11Copy -/
theorem copy_id (l : List Ext) : sel (tagIn (sel yesE Ext.tag l)) idE l = l := by
  rw [sel_idE, List.filter_eq_self]
  intro a ha
  unfold tagIn hasI sel
  rw [List.any_eq_true]
  exact ⟨a.tag, List.mem_map.2 ⟨a, by simp [yesE, ha], rfl⟩, by simp⟩
theorem ok295 (l : List Ext) (hl : l.length ≤ 1073741824) (w : ∀ y ∈ l, y.body.length ≤ 1099511627776) {f0 : Fl} (h0 : inFl f0 = true) : fix Tb md 295 [R (row fExt l) f0] = some ⟨[R (row fExt l) (.ow false)], [], none⟩ := by
  obtain ⟨ea, hea⟩ : ∃ y_, y_ = row fExt l := ⟨_, rfl⟩
  rw [← hea]
  generalize hr : (⟨_, [], none⟩ : Ret) = r
  obtain ⟨et, het⟩ : ∃ y_, y_ = row fI (sel yesE Ext.tag l) := ⟨_, rfl⟩
  have hlen : (sel yesE Ext.tag l).length ≤ l.length := sel_len
  refine fix_fn2 (fn := ir295) tb_295 rfl rfl (by decide) rfl ?_; intro Q hQ; simp only [shutArgs, shutS, List.map_cons, List.map_nil, ir295, shut_in h0, List.head?_nil, reduceCtorEq, if_false, sExt, sHello, sAnswer, sEdit, sDeal, sBox, sDialed, sKnown]
  intro add sub mul arith eq ne lt le gt ge neg conv mn mx not beq len at' ln bd cut app allS isNil mks set o hP F ho
  have c1 : o 280 [R ea (.sp 0 0)] = some ⟨[R et (.ow false)], [], none⟩ := by rw [ho, het, hea]; exact ok280 _ hl rfl
  have c2 : o 307 [R ea (.sp 0 0), R et (.sp 1 0)] = some ⟨[R ea (.ow false)], [], none⟩ := by
    rw [ho, het, hea]
    have h := ok307 l (sel yesE Ext.tag l) hl (by omega) w (f0 := .sp 0 0) (f1 := .sp 1 0) rfl rfl
    rw [copy_id] at h
    exact h
  cbv
  rw [c1]; cbv
  rw [c2]; cbv
  rw [hQ]; cbv
  exact congrArg some hr

/- spec.l18Drop -/
def notTag (t : Int) (e : Ext) : Bool := decide (e.tag ≠ t)
theorem ok296 (l : List Ext) (t : Int) (hl : l.length ≤ 1073741824) (w : ∀ y ∈ l, y.body.length ≤ 1099511627776) {f0 : Fl} (h0 : inFl f0 = true) : fix Tb md 296 [R (row fExt l) f0, I t] = some ⟨[R (row fExt (sel (notTag t) idE l)) (.ow false)], [], none⟩ := by
  obtain ⟨et, het⟩ : ∃ y_, y_ = row fExt (sel (notTag t) idE l) := ⟨_, rfl⟩
  rw [← het]
  generalize hr : (⟨_, [], none⟩ : Ret) = r
  obtain ⟨ea, hea⟩ : ∃ y_, y_ = row fExt l := ⟨_, rfl⟩
  rw [← hea]
  refine fix_fn2 (fn := ir296) tb_296 rfl rfl (by decide) rfl ?_; intro Q hQ; simp only [shutArgs, shutS, List.map_cons, List.map_nil, ir296, shut_in h0, List.head?_nil, reduceCtorEq, if_false, sExt, sHello, sAnswer, sEdit, sDeal, sBox, sDialed, sKnown]
  intro add sub mul arith eq ne lt le gt ge neg conv mn mx not beq len at' ln bd cut app allS isNil mks set o hP F ho
  have la := F.len_at hea
  cbv
  refine loop_ind2 hP (σ := List Ext × List Ext × List (List V) × Int) (fun s => [(0, R ea .sh), (1, I t), (4, R [] .nl), (5, R s.2.2.1 (.ow false)), (6, I s.2.2.2)]) (fun s => At s.2.2.2 s.2.1.length ∧ l = s.2.1 ++ s.1 ∧ s.2.2.1 = row fExt (sel (notTag t) idE s.2.1)) (fun s => s.1.length) (l, [], [], 0) rfl ⟨rfl, rfl, rfl⟩ ?_
  intro c1 Q1 hc1 hQ1
  rintro ⟨suf, pre, eo, i⟩ ⟨hi, hl', hb⟩ ih
  simp only at hi hl' hb ih
  cbv
  cases suf with
  | nil =>
    rw [F.lt_f hi la (by simp [hl'])]; cbv
    rw [hQ1]; cbv
    rw [hQ]; cbv
    rw [← hr, het, hb, hl', List.append_nil]
  | cons x suf =>
    obtain ⟨ix, hix⟩ : ∃ y_, y_ = pre.length * 2 := ⟨_, rfl⟩
    have hpre : pre.length ≤ 1073741824 := by rw [hl'] at hl; simp at hl; omega
    have hs : (sel (notTag t) idE pre).length ≤ pre.length := sel_len
    have hi' : At (add .i64 i 1) (pre ++ [x]).length := at_len (F.inc hi (by omega)) (by simp)
    have hl2 : l = (pre ++ [x]) ++ suf := by rw [hl']; simp
    have hmem : x ∈ l := by rw [hl']; simp
    obtain ⟨e1, he1⟩ : ∃ y_, y_ = row fI x.body := ⟨_, rfl⟩
    have hx := w x hmem
    have p0 : at' 2 ea i = some (ix, [.int .i64 x.tag, .row () e1]) := by rw [hix, he1]; exact F.get hi hea hl' (fun _ => rfl) (by decide)
    obtain ⟨v, hv⟩ : ∃ y_, y_ = notTag t x := ⟨_, rfl⟩
    have g1 : ne x.tag t = v := by rw [F.ne, hv]; rfl
    rw [F.lt_t hi la (by simp [hl'])]; cbv
    rw [p0]; cbv
    rw [g1]; cbv
    refine both (fun d => ?_) (fun d => ?_) <;> rw [d] <;> cbv
    · rw [p0]; cbv
      rw [p0]; cbv
      rw [show allS e1 = true from F.scal he1 (fun _ => rfl)]; cbv
      rw [F.app_nil he1 (fun _ => rfl) hx]; cbv
      rw [show allS [[.int .i64 x.tag, .row () e1]] = false by rw [F.allS]; rfl]; cbv
      obtain ⟨eo', heo'⟩ : ∃ y_, y_ = row fExt (sel (notTag t) idE pre ++ [idE x]) := ⟨_, rfl⟩
      rw [show app 2 eo [[.int .i64 x.tag, .row () e1]] = some eo' by rw [heo', he1]; exact F.push hb (fun _ => rfl) rfl (by omega)]; cbv
      refine ih (suf, pre ++ [x], eo', add .i64 i 1) ⟨hi', hl2, by simp only; rw [heo', sel_t (by rw [← hv, d])]⟩ (by simp)
    · refine ih (suf, pre ++ [x], eo, add .i64 i 1) ⟨hi', hl2, by simp only; rw [hb, sel_f (by rw [← hv, d])]⟩ (by simp)

/- spec.EditAnswer -/
def editA (a : Answer) (e : Edit) : Answer := if (decide (e.kind = 4) && inR e.n 1 9) = true then ⟨e.n, a.exts⟩ else if decide (e.kind = 5) = true then ⟨a.version, sel (notTag e.n) idE a.exts⟩ else a
theorem ok154 (a : Answer) (e : Edit) (hl : a.exts.length ≤ 1073741824) (w : ∀ y ∈ a.exts, y.body.length ≤ 1099511627776) {f0 : Fl} (h0 : inFl f0 = true) : fix Tb md 154 [sAnswer a.version (row fExt a.exts) f0, sEdit e.kind e.n] = some ⟨[sAnswer (editA a e).version (row fExt (editA a e).exts) (.ow false)], [], none⟩ := by
  obtain ⟨b1, hb1⟩ : ∃ y_, y_ = decide (e.kind = 4) := ⟨_, rfl⟩
  obtain ⟨b2, hb2⟩ : ∃ y_, y_ = inR e.n 1 9 := ⟨_, rfl⟩
  obtain ⟨b3, hb3⟩ : ∃ y_, y_ = decide (e.kind = 5) := ⟨_, rfl⟩
  have hv : editA a e = if (b1 && b2) = true then ⟨e.n, a.exts⟩ else if b3 = true then ⟨a.version, sel (notTag e.n) idE a.exts⟩ else a := by rw [hb1, hb2, hb3]; rfl
  obtain ⟨z, hz⟩ : ∃ y_, y_ = editA a e := ⟨_, rfl⟩
  rw [← hz] at hv ⊢
  have hA : b1 = true → b2 = true → z = ⟨e.n, a.exts⟩ := by intro q1 q2; rw [hv, q1, q2]; rfl
  have hB : (b1 && b2) = false → b3 = true → z = ⟨a.version, sel (notTag e.n) idE a.exts⟩ := by intro q1 q2; rw [hv, q1, q2]; rfl
  have hC : (b1 && b2) = false → b3 = false → z = a := by intro q1 q2; rw [hv, q1, q2]; rfl
  obtain ⟨et, het⟩ : ∃ y_, y_ = row fExt z.exts := ⟨_, rfl⟩
  rw [← het]
  generalize hr : (⟨_, [], none⟩ : Ret) = r
  obtain ⟨ea, hea⟩ : ∃ y_, y_ = row fExt a.exts := ⟨_, rfl⟩
  rw [← hea]
  obtain ⟨ed, hed⟩ : ∃ y_, y_ = row fExt (sel (notTag e.n) idE a.exts) := ⟨_, rfl⟩
  refine fix_fn2 (fn := ir154) tb_154 rfl rfl (by decide) rfl ?_; intro Q hQ; simp only [shutArgs, shutS, List.map_cons, List.map_nil, ir154, shut_in h0, List.head?_nil, reduceCtorEq, if_false, sExt, sHello, sAnswer, sEdit, sDeal, sBox, sDialed, sKnown]
  intro add sub mul arith eq ne lt le gt ge neg conv mn mx not beq len at' ln bd cut app allS isNil mks set o hP F ho
  have c1 : o 295 [R ea (.sp 0 0)] = some ⟨[R ea (.ow false)], [], none⟩ := by rw [ho, hea]; exact ok295 _ hl w rfl
  have c2 : o 230 [I e.n, I 1, I 9] = some ⟨[B b2], [], none⟩ := by rw [ho, hb2]; exact ok230 ..
  have c3 : o 296 [R ea (.sp 0 0), I e.n] = some ⟨[R ed (.ow false)], [], none⟩ := by rw [ho, hed, hea]; exact ok296 _ _ hl w rfl
  have g1 : eq e.kind 4 = b1 := by rw [F.eq, hb1]
  have g2 : eq e.kind 5 = b3 := by rw [F.eq, hb3]
  cbv
  rw [c1]; cbv
  rw [g1]; cbv
  refine both (fun d1 => ?_) (fun d1 => ?_) <;> rw [d1] <;> cbv
  · rw [c2]; cbv
    refine both (fun d2 => ?_) (fun d2 => ?_) <;> rw [d2] <;> cbv
    · rw [hQ]; cbv
      have hv := hA d1 d2
      rw [← hr, het, hv, hea]
    · rw [g2]; cbv
      refine both (fun d3 => ?_) (fun d3 => ?_) <;> rw [d3] <;> cbv
      · rw [c3]; cbv
        rw [hQ]; cbv
        have hv := hB (by rw [d1, d2]; rfl) d3
        rw [← hr, het, hv, hed]
      · rw [hQ]; cbv
        have hv := hC (by rw [d1, d2]; rfl) d3
        rw [← hr, het, hv, hea]
  · rw [g2]; cbv
    refine both (fun d3 => ?_) (fun d3 => ?_) <;> rw [d3] <;> cbv
    · rw [c3]; cbv
      rw [hQ]; cbv
      have hv := hB (by rw [d1]; rfl) d3
      rw [← hr, het, hv, hed]
    · rw [hQ]; cbv
      have hv := hC (by rw [d1]; rfl) d3
      rw [← hr, het, hv, hea]
theorem editA_mid {a : Answer} {e : Edit} (h : a.Mid) : (editA a e).Mid := by
  unfold editA
  split
  · exact h
  · split
    · unfold Answer.Mid at *
      exact ⟨Nat.le_trans sel_len h.1, fun y hy => h.2 y (by rw [sel_idE] at hy; exact (List.mem_filter.1 hy).1)⟩
    · exact h

/- impl.InRange -/
theorem ok232 (x lo hi : Int) : fix Tb md 232 [I x, I lo, I hi] = some ⟨[B (inR x lo hi)], [], none⟩ := by
  refine fix_fn (fn := ir232) tb_232 rfl rfl (by decide) rfl ?_; simp only [shutArgs, shutS, List.map_cons, List.map_nil, ir232, List.head?_nil, reduceCtorEq, if_false, sExt, sHello, sAnswer, sEdit, sDeal, sBox, sDialed, sKnown]
  generalize hr : (⟨_, [], none⟩ : Ret) = r
  intro add sub mul arith eq ne lt le gt ge neg conv mn mx not beq len at' ln bd cut app allS isNil mks set o hP F ho
  cbv
  repeat' (first | (refine both (fun c => ?_) (fun c => ?_) <;> (try rw [c]) <;> (try cbv)))
  all_goals (clear hP  ho; try simp only [F.eq, F.ne, F.le, F.lt, F.ge, F.gt, F.not, F.beq] at *; clear F; subst hr)
  all_goals (simp_all [inR] <;> (intros; omega))

/- impl.keptExts -/
def onTag (p : Int → Bool) (e : Ext) : Bool := p e.tag
theorem ok264_0 (g : Nat) (hg : md g = []) (p : Int → Bool) (l : List Ext) (hl : l.length ≤ 1073741824) (w : ∀ y ∈ l, y.body.length ≤ 1099511627776) (hp : ∀ x ∈ l, fix Tb md g [I x.tag] = some ⟨[B (p x.tag)], [], none⟩) {f0 : Fl} (h0 : inFl f0 = true) : fix Tb md 264 [R (row fExt l) f0, ⟨.val, [⟨.fn g [], .sh⟩]⟩] = some ⟨[R (row fExt (sel (onTag p) idE l)) (.ow false)], [], none⟩ := by
  generalize hm_ : md = m_ at hg hp ⊢
  obtain ⟨et, het⟩ : ∃ y_, y_ = row fExt (sel (onTag p) idE l) := ⟨_, rfl⟩
  rw [← het]
  generalize hr : (⟨_, [], none⟩ : Ret) = r
  obtain ⟨ea, hea⟩ : ∃ y_, y_ = row fExt l := ⟨_, rfl⟩
  rw [← hea]
  refine fix_fn2 (fn := ir264) tb_264 rfl rfl (by decide) rfl ?_; intro Q hQ; simp only [shutArgs, shutS, List.map_cons, List.map_nil, ir264, shut_in h0, List.head?_nil, reduceCtorEq, if_false, sExt, sHello, sAnswer, sEdit, sDeal, sBox, sDialed, sKnown]
  intro add sub mul arith eq ne lt le gt ge neg conv mn mx not beq len at' ln bd cut app allS isNil mks set o hP F ho
  have la := F.len_at hea
  cbv
  refine loop_ind2 hP (σ := List Ext × List Ext × List (List V) × Int × Option (Int × List (List V))) (fun s => match s.2.2.2.2 with | none => [(0, R ea .sh), (1, ⟨.val, [⟨.fn g [], .sh⟩]⟩), (4, R [] .nl), (5, R s.2.2.1 (.ow false)), (9, R ea .sh), (10, I (len ea)), (11, I s.2.2.2.1)] | some j => [(0, R ea .sh), (1, ⟨.val, [⟨.fn g [], .sh⟩]⟩), (4, R [] .nl), (5, R s.2.2.1 (.ow false)), (7, ⟨.ptr 38 0, []⟩), (9, R ea .sh), (10, I (len ea)), (11, I s.2.2.2.1), (38, ⟨.box (), [⟨.int .i64 j.1, .sc⟩, ⟨.row () j.2, .sh⟩]⟩)]) (fun s => At s.2.2.2.1 s.2.1.length ∧ l = s.2.1 ++ s.1 ∧ s.2.2.1 = row fExt (sel (onTag p) idE s.2.1)) (fun s => s.1.length) (l, [], [], 0, none) rfl ⟨rfl, rfl, rfl⟩ ?_
  intro c1 Q1 hc1 hQ1
  rintro ⟨suf, pre, eo, i, j⟩ ⟨hi, hl', hb⟩ ih
  simp only at hi hl' hb ih
  cases j with
  | none =>
    cbv
    cases suf with
    | nil =>
      rw [F.lt_f hi la (by simp [hl'])]; cbv
      rw [hQ1]; cbv
      rw [hQ]; cbv
      rw [← hr, het, hb, hl', List.append_nil]
    | cons x suf =>
      obtain ⟨ix, hix⟩ : ∃ y_, y_ = pre.length * 2 := ⟨_, rfl⟩
      have hpre : pre.length ≤ 1073741824 := by rw [hl'] at hl; simp at hl; omega
      have hs : (sel (onTag p) idE pre).length ≤ pre.length := sel_len
      have hi' : At (add .i64 i 1) (pre ++ [x]).length := at_len (F.inc hi (by omega)) (by simp)
      have hl2 : l = (pre ++ [x]) ++ suf := by rw [hl']; simp
      have hmem : x ∈ l := by rw [hl']; simp
      obtain ⟨e1, he1⟩ : ∃ y_, y_ = row fI x.body := ⟨_, rfl⟩
      have hx := w x hmem
      have p0 : at' 2 ea i = some (ix, [.int .i64 x.tag, .row () e1]) := by rw [hix, he1]; exact F.get hi hea hl' (fun _ => rfl) (by decide)
      obtain ⟨v, hv⟩ : ∃ y_, y_ = onTag p x := ⟨_, rfl⟩
      have c2 : o g [I x.tag] = some ⟨[B v], [], none⟩ := by rw [ho, hv]; exact hp x hmem
      rw [F.lt_t hi la (by simp [hl'])]; cbv
      rw [p0]; cbv
      rw [hg]; cbv
      rw [c2]; cbv
      refine both (fun d => ?_) (fun d => ?_) <;> rw [d] <;> cbv
      · rw [show allS e1 = true from F.scal he1 (fun _ => rfl)]; cbv
        rw [F.app_nil he1 (fun _ => rfl) hx]; cbv
        rw [show allS [[.int .i64 x.tag, .row () e1]] = false by rw [F.allS]; rfl]; cbv
        obtain ⟨eo', heo'⟩ : ∃ y_, y_ = row fExt (sel (onTag p) idE pre ++ [idE x]) := ⟨_, rfl⟩
        rw [show app 2 eo [[.int .i64 x.tag, .row () e1]] = some eo' by rw [heo', he1]; exact F.push hb (fun _ => rfl) rfl (by omega)]; cbv
        refine ih (suf, pre ++ [x], eo', add .i64 i 1, some (x.tag, e1)) ⟨hi', hl2, by simp only; rw [heo', sel_t (by rw [← hv, d])]⟩ (by simp)
      · refine ih (suf, pre ++ [x], eo, add .i64 i 1, some (x.tag, e1)) ⟨hi', hl2, by simp only; rw [hb, sel_f (by rw [← hv, d])]⟩ (by simp)
  | some jj =>
    obtain ⟨j1, j2⟩ := jj
    cbv
    cases suf with
    | nil =>
      rw [F.lt_f hi la (by simp [hl'])]; cbv
      rw [hQ1]; cbv
      rw [hQ]; cbv
      rw [← hr, het, hb, hl', List.append_nil]
    | cons x suf =>
      obtain ⟨ix, hix⟩ : ∃ y_, y_ = pre.length * 2 := ⟨_, rfl⟩
      have hpre : pre.length ≤ 1073741824 := by rw [hl'] at hl; simp at hl; omega
      have hs : (sel (onTag p) idE pre).length ≤ pre.length := sel_len
      have hi' : At (add .i64 i 1) (pre ++ [x]).length := at_len (F.inc hi (by omega)) (by simp)
      have hl2 : l = (pre ++ [x]) ++ suf := by rw [hl']; simp
      have hmem : x ∈ l := by rw [hl']; simp
      obtain ⟨e1, he1⟩ : ∃ y_, y_ = row fI x.body := ⟨_, rfl⟩
      have hx := w x hmem
      have p0 : at' 2 ea i = some (ix, [.int .i64 x.tag, .row () e1]) := by rw [hix, he1]; exact F.get hi hea hl' (fun _ => rfl) (by decide)
      obtain ⟨v, hv⟩ : ∃ y_, y_ = onTag p x := ⟨_, rfl⟩
      have c2 : o g [I x.tag] = some ⟨[B v], [], none⟩ := by rw [ho, hv]; exact hp x hmem
      rw [F.lt_t hi la (by simp [hl'])]; cbv
      rw [p0]; cbv
      rw [hg]; cbv
      rw [c2]; cbv
      refine both (fun d => ?_) (fun d => ?_) <;> rw [d] <;> cbv
      · rw [show allS e1 = true from F.scal he1 (fun _ => rfl)]; cbv
        rw [F.app_nil he1 (fun _ => rfl) hx]; cbv
        rw [show allS [[.int .i64 x.tag, .row () e1]] = false by rw [F.allS]; rfl]; cbv
        obtain ⟨eo', heo'⟩ : ∃ y_, y_ = row fExt (sel (onTag p) idE pre ++ [idE x]) := ⟨_, rfl⟩
        rw [show app 2 eo [[.int .i64 x.tag, .row () e1]] = some eo' by rw [heo', he1]; exact F.push hb (fun _ => rfl) rfl (by omega)]; cbv
        refine ih (suf, pre ++ [x], eo', add .i64 i 1, some (x.tag, e1)) ⟨hi', hl2, by simp only; rw [heo', sel_t (by rw [← hv, d])]⟩ (by simp)
      · refine ih (suf, pre ++ [x], eo, add .i64 i 1, some (x.tag, e1)) ⟨hi', hl2, by simp only; rw [hb, sel_f (by rw [← hv, d])]⟩ (by simp)
theorem ok264_1 (g : Nat) (hg : md g = []) (k0 : V) (p : Int → Bool) (l : List Ext) (hl : l.length ≤ 1073741824) (w : ∀ y ∈ l, y.body.length ≤ 1099511627776) (hp : ∀ x ∈ l, fix Tb md g [I x.tag, ⟨.val, [⟨k0, .sh⟩]⟩] = some ⟨[B (p x.tag)], [], none⟩) {f0 : Fl} (h0 : inFl f0 = true) : fix Tb md 264 [R (row fExt l) f0, ⟨.val, [⟨.fn g [k0], .sh⟩]⟩] = some ⟨[R (row fExt (sel (onTag p) idE l)) (.ow false)], [], none⟩ := by
  generalize hm_ : md = m_ at hg hp ⊢
  obtain ⟨et, het⟩ : ∃ y_, y_ = row fExt (sel (onTag p) idE l) := ⟨_, rfl⟩
  rw [← het]
  generalize hr : (⟨_, [], none⟩ : Ret) = r
  obtain ⟨ea, hea⟩ : ∃ y_, y_ = row fExt l := ⟨_, rfl⟩
  rw [← hea]
  refine fix_fn2 (fn := ir264) tb_264 rfl rfl (by decide) rfl ?_; intro Q hQ; simp only [shutArgs, shutS, List.map_cons, List.map_nil, ir264, shut_in h0, List.head?_nil, reduceCtorEq, if_false, sExt, sHello, sAnswer, sEdit, sDeal, sBox, sDialed, sKnown]
  intro add sub mul arith eq ne lt le gt ge neg conv mn mx not beq len at' ln bd cut app allS isNil mks set o hP F ho
  have la := F.len_at hea
  cbv
  refine loop_ind2 hP (σ := List Ext × List Ext × List (List V) × Int × Option (Int × List (List V))) (fun s => match s.2.2.2.2 with | none => [(0, R ea .sh), (1, ⟨.val, [⟨.fn g [k0], .sh⟩]⟩), (4, R [] .nl), (5, R s.2.2.1 (.ow false)), (9, R ea .sh), (10, I (len ea)), (11, I s.2.2.2.1)] | some j => [(0, R ea .sh), (1, ⟨.val, [⟨.fn g [k0], .sh⟩]⟩), (4, R [] .nl), (5, R s.2.2.1 (.ow false)), (7, ⟨.ptr 38 0, []⟩), (9, R ea .sh), (10, I (len ea)), (11, I s.2.2.2.1), (38, ⟨.box (), [⟨.int .i64 j.1, .sc⟩, ⟨.row () j.2, .sh⟩]⟩)]) (fun s => At s.2.2.2.1 s.2.1.length ∧ l = s.2.1 ++ s.1 ∧ s.2.2.1 = row fExt (sel (onTag p) idE s.2.1)) (fun s => s.1.length) (l, [], [], 0, none) rfl ⟨rfl, rfl, rfl⟩ ?_
  intro c1 Q1 hc1 hQ1
  rintro ⟨suf, pre, eo, i, j⟩ ⟨hi, hl', hb⟩ ih
  simp only at hi hl' hb ih
  cases j with
  | none =>
    cbv
    cases suf with
    | nil =>
      rw [F.lt_f hi la (by simp [hl'])]; cbv
      rw [hQ1]; cbv
      rw [hQ]; cbv
      rw [← hr, het, hb, hl', List.append_nil]
    | cons x suf =>
      obtain ⟨ix, hix⟩ : ∃ y_, y_ = pre.length * 2 := ⟨_, rfl⟩
      have hpre : pre.length ≤ 1073741824 := by rw [hl'] at hl; simp at hl; omega
      have hs : (sel (onTag p) idE pre).length ≤ pre.length := sel_len
      have hi' : At (add .i64 i 1) (pre ++ [x]).length := at_len (F.inc hi (by omega)) (by simp)
      have hl2 : l = (pre ++ [x]) ++ suf := by rw [hl']; simp
      have hmem : x ∈ l := by rw [hl']; simp
      obtain ⟨e1, he1⟩ : ∃ y_, y_ = row fI x.body := ⟨_, rfl⟩
      have hx := w x hmem
      have p0 : at' 2 ea i = some (ix, [.int .i64 x.tag, .row () e1]) := by rw [hix, he1]; exact F.get hi hea hl' (fun _ => rfl) (by decide)
      obtain ⟨v, hv⟩ : ∃ y_, y_ = onTag p x := ⟨_, rfl⟩
      have c2 : o g [I x.tag, ⟨.val, [⟨k0, .sh⟩]⟩] = some ⟨[B v], [], none⟩ := by rw [ho, hv]; exact hp x hmem
      rw [F.lt_t hi la (by simp [hl'])]; cbv
      rw [p0]; cbv
      rw [hg]; cbv
      rw [c2]; cbv
      refine both (fun d => ?_) (fun d => ?_) <;> rw [d] <;> cbv
      · rw [show allS e1 = true from F.scal he1 (fun _ => rfl)]; cbv
        rw [F.app_nil he1 (fun _ => rfl) hx]; cbv
        rw [show allS [[.int .i64 x.tag, .row () e1]] = false by rw [F.allS]; rfl]; cbv
        obtain ⟨eo', heo'⟩ : ∃ y_, y_ = row fExt (sel (onTag p) idE pre ++ [idE x]) := ⟨_, rfl⟩
        rw [show app 2 eo [[.int .i64 x.tag, .row () e1]] = some eo' by rw [heo', he1]; exact F.push hb (fun _ => rfl) rfl (by omega)]; cbv
        refine ih (suf, pre ++ [x], eo', add .i64 i 1, some (x.tag, e1)) ⟨hi', hl2, by simp only; rw [heo', sel_t (by rw [← hv, d])]⟩ (by simp)
      · refine ih (suf, pre ++ [x], eo, add .i64 i 1, some (x.tag, e1)) ⟨hi', hl2, by simp only; rw [hb, sel_f (by rw [← hv, d])]⟩ (by simp)
  | some jj =>
    obtain ⟨j1, j2⟩ := jj
    cbv
    cases suf with
    | nil =>
      rw [F.lt_f hi la (by simp [hl'])]; cbv
      rw [hQ1]; cbv
      rw [hQ]; cbv
      rw [← hr, het, hb, hl', List.append_nil]
    | cons x suf =>
      obtain ⟨ix, hix⟩ : ∃ y_, y_ = pre.length * 2 := ⟨_, rfl⟩
      have hpre : pre.length ≤ 1073741824 := by rw [hl'] at hl; simp at hl; omega
      have hs : (sel (onTag p) idE pre).length ≤ pre.length := sel_len
      have hi' : At (add .i64 i 1) (pre ++ [x]).length := at_len (F.inc hi (by omega)) (by simp)
      have hl2 : l = (pre ++ [x]) ++ suf := by rw [hl']; simp
      have hmem : x ∈ l := by rw [hl']; simp
      obtain ⟨e1, he1⟩ : ∃ y_, y_ = row fI x.body := ⟨_, rfl⟩
      have hx := w x hmem
      have p0 : at' 2 ea i = some (ix, [.int .i64 x.tag, .row () e1]) := by rw [hix, he1]; exact F.get hi hea hl' (fun _ => rfl) (by decide)
      obtain ⟨v, hv⟩ : ∃ y_, y_ = onTag p x := ⟨_, rfl⟩
      have c2 : o g [I x.tag, ⟨.val, [⟨k0, .sh⟩]⟩] = some ⟨[B v], [], none⟩ := by rw [ho, hv]; exact hp x hmem
      rw [F.lt_t hi la (by simp [hl'])]; cbv
      rw [p0]; cbv
      rw [hg]; cbv
      rw [c2]; cbv
      refine both (fun d => ?_) (fun d => ?_) <;> rw [d] <;> cbv
      · rw [show allS e1 = true from F.scal he1 (fun _ => rfl)]; cbv
        rw [F.app_nil he1 (fun _ => rfl) hx]; cbv
        rw [show allS [[.int .i64 x.tag, .row () e1]] = false by rw [F.allS]; rfl]; cbv
        obtain ⟨eo', heo'⟩ : ∃ y_, y_ = row fExt (sel (onTag p) idE pre ++ [idE x]) := ⟨_, rfl⟩
        rw [show app 2 eo [[.int .i64 x.tag, .row () e1]] = some eo' by rw [heo', he1]; exact F.push hb (fun _ => rfl) rfl (by omega)]; cbv
        refine ih (suf, pre ++ [x], eo', add .i64 i 1, some (x.tag, e1)) ⟨hi', hl2, by simp only; rw [heo', sel_t (by rw [← hv, d])]⟩ (by simp)
      · refine ih (suf, pre ++ [x], eo, add .i64 i 1, some (x.tag, e1)) ⟨hi', hl2, by simp only; rw [hb, sel_f (by rw [← hv, d])]⟩ (by simp)

/- impl.copyExts$1 -/
theorem ok347 (n : Int) : fix Tb md 347 [I n] = some ⟨[B true], [], none⟩ := by
  generalize hr : (⟨_, [], none⟩ : Ret) = r
  refine fix_fn2 (fn := ir347) tb_347 rfl rfl (by decide) rfl ?_; intro Q hQ; simp only [shutArgs, shutS, List.map_cons, List.map_nil, ir347, List.head?_nil, reduceCtorEq, if_false, sExt, sHello, sAnswer, sEdit, sDeal, sBox, sDialed, sKnown]
  intro add sub mul arith eq ne lt le gt ge neg conv mn mx not beq len at' ln bd cut app allS isNil mks set o hP F ho
  cbv
  rw [hQ]; cbv
  exact congrArg some hr

/- impl.copyExts -/
theorem ok266 (l : List Ext) (hl : l.length ≤ 1073741824) (w : ∀ y ∈ l, y.body.length ≤ 1099511627776) {f0 : Fl} (h0 : inFl f0 = true) : fix Tb md 266 [R (row fExt l) f0] = some ⟨[R (row fExt l) (.ow false)], [], none⟩ := by
  obtain ⟨ea, hea⟩ : ∃ y_, y_ = row fExt l := ⟨_, rfl⟩
  rw [← hea]
  generalize hr : (⟨_, [], none⟩ : Ret) = r
  refine fix_fn2 (fn := ir266) tb_266 rfl rfl (by decide) rfl ?_; intro Q hQ; simp only [shutArgs, shutS, List.map_cons, List.map_nil, ir266, shut_in h0, List.head?_nil, reduceCtorEq, if_false, sExt, sHello, sAnswer, sEdit, sDeal, sBox, sDialed, sKnown]
  intro add sub mul arith eq ne lt le gt ge neg conv mn mx not beq len at' ln bd cut app allS isNil mks set o hP F ho
  have c1 : o 264 [R ea (.sp 0 0), ⟨.val, [⟨.fn 347 [], .sh⟩]⟩] = some ⟨[R ea (.ow false)], [], none⟩ := by
    rw [ho, hea]
    have h := ok264_0 347 rfl (fun _ => true) l hl w (fun x _ => ok347 x.tag) (f0 := .sp 0 0) rfl
    rw [show sel (onTag fun _ => true) idE l = l by rw [sel_idE]; exact List.filter_eq_self.2 (fun _ _ => rfl)] at h
    exact h
  cbv
  rw [c1]; cbv
  rw [hQ]; cbv
  exact congrArg some hr

/- impl.EditAnswer$1 -/
theorem ok267 (t k n : Int) : fix Tb md 267 [I t, ⟨.val, [⟨.ptr () [.int .i64 k, .int .i64 n], .sh⟩]⟩] = some ⟨[B (decide (t ≠ n))], [], none⟩ := by
  generalize hr : (⟨_, [], none⟩ : Ret) = r
  refine fix_fn2 (fn := ir267) tb_267 rfl rfl (by decide) rfl ?_; intro Q hQ; simp only [shutArgs, shutS, List.map_cons, List.map_nil, ir267, List.head?_nil, reduceCtorEq, if_false, sExt, sHello, sAnswer, sEdit, sDeal, sBox, sDialed, sKnown]
  intro add sub mul arith eq ne lt le gt ge neg conv mn mx not beq len at' ln bd cut app allS isNil mks set o hP F ho
  cbv
  rw [hQ]; cbv
  rw [← hr, F.ne]

/- impl.EditAnswer -/
theorem ok119 (a : Answer) (e : Edit) (hl : a.exts.length ≤ 1073741824) (w : ∀ y ∈ a.exts, y.body.length ≤ 1099511627776) {f0 : Fl} (h0 : inFl f0 = true) : fix Tb md 119 [sAnswer a.version (row fExt a.exts) f0, sEdit e.kind e.n] = some ⟨[sAnswer (editA a e).version (row fExt (editA a e).exts) (.ow false)], [], none⟩ := by
  obtain ⟨b1, hb1⟩ : ∃ y_, y_ = decide (e.kind = 4) := ⟨_, rfl⟩
  obtain ⟨b2, hb2⟩ : ∃ y_, y_ = inR e.n 1 9 := ⟨_, rfl⟩
  obtain ⟨b3, hb3⟩ : ∃ y_, y_ = decide (e.kind = 5) := ⟨_, rfl⟩
  have h45 : b1 = true → b3 = false := by intro q; rw [hb1] at q; rw [hb3]; simp at q ⊢; omega
  have hv : editA a e = if (b1 && b2) = true then ⟨e.n, a.exts⟩ else if b3 = true then ⟨a.version, sel (notTag e.n) idE a.exts⟩ else a := by rw [hb1, hb2, hb3]; rfl
  obtain ⟨z, hz⟩ : ∃ y_, y_ = editA a e := ⟨_, rfl⟩
  rw [← hz] at hv ⊢
  have hA : b1 = true → b2 = true → z = ⟨e.n, a.exts⟩ := by intro q1 q2; rw [hv, q1, q2]; rfl
  have hB : (b1 && b2) = false → b3 = true → z = ⟨a.version, sel (notTag e.n) idE a.exts⟩ := by intro q1 q2; rw [hv, q1, q2]; rfl
  have hC : (b1 && b2) = false → b3 = false → z = a := by intro q1 q2; rw [hv, q1, q2]; rfl
  obtain ⟨et, het⟩ : ∃ y_, y_ = row fExt z.exts := ⟨_, rfl⟩
  rw [← het]
  generalize hr : (⟨_, [], none⟩ : Ret) = r
  obtain ⟨ea, hea⟩ : ∃ y_, y_ = row fExt a.exts := ⟨_, rfl⟩
  rw [← hea]
  obtain ⟨ed, hed⟩ : ∃ y_, y_ = row fExt (sel (notTag e.n) idE a.exts) := ⟨_, rfl⟩
  refine fix_fn2 (fn := ir119) tb_119 rfl rfl (by decide) rfl ?_; intro Q hQ; simp only [shutArgs, shutS, List.map_cons, List.map_nil, ir119, shut_in h0, List.head?_nil, reduceCtorEq, if_false, sExt, sHello, sAnswer, sEdit, sDeal, sBox, sDialed, sKnown]
  intro add sub mul arith eq ne lt le gt ge neg conv mn mx not beq len at' ln bd cut app allS isNil mks set o hP F ho
  have c1 : o 266 [R ea (.sp 0 0)] = some ⟨[R ea (.ow false)], [], none⟩ := by rw [ho, hea]; exact ok266 _ hl w rfl
  have c2 : o 232 [I e.n, I 1, I 9] = some ⟨[B b2], [], none⟩ := by rw [ho, hb2]; exact ok232 ..
  have c3 : o 264 [R ea (.sp 0 0), ⟨.val, [⟨.fn 267 [.ptr () [.int .i64 e.kind, .int .i64 e.n]], .sh⟩]⟩] = some ⟨[R ed (.ow false)], [], none⟩ := by
    rw [ho, hed, hea]
    exact ok264_1 267 rfl _ (fun t => decide (t ≠ e.n)) a.exts hl w (fun x _ => ok267 x.tag e.kind e.n) rfl
  have g1 : eq e.kind 4 = b1 := by rw [F.eq, hb1]
  have g2 : eq e.kind 5 = b3 := by rw [F.eq, hb3]
  cbv
  rw [c1]; cbv
  rw [g1]; cbv
  refine both (fun d1 => ?_) (fun d1 => ?_) <;> rw [d1] <;> cbv
  · rw [c2]; cbv
    refine both (fun d2 => ?_) (fun d2 => ?_) <;> rw [d2] <;> cbv
    · rw [hQ]; cbv
      have hv := hA d1 d2
      rw [← hr, het, hv, hea]
    · rw [hQ]; cbv
      have hv := hC (by rw [d1, d2]; rfl) (h45 d1)
      rw [← hr, het, hv, hea]
  · rw [g2]; cbv
    refine both (fun d3 => ?_) (fun d3 => ?_) <;> rw [d3] <;> cbv
    · rw [c3]; cbv
      rw [hQ]; cbv
      have hv := hB (by rw [d1]; rfl) d3
      rw [← hr, het, hv, hed]
    · rw [hQ]; cbv
      have hv := hC (by rw [d1]; rfl) d3
      rw [← hr, het, hv, hea]

/- laws.szIntS -/
theorem ok227 {α : Type} (f : α → List V) (l : List α) (left : Int) (h : l.length ≤ 9223372036854775807) (h1 : 0 ≤ left) (h2 : left ≤ 1048576) {f0 : Fl} (h0 : inFl f0 = true) : fix Tb md 227 [R (row f l) f0, I left] = some ⟨[I (sz1 l.length left)], [], none⟩ := by
  by_cases hl : left - l.length < 0
  · rw [show sz1 l.length left = -1 by unfold sz1; rw [if_pos hl]]
    refine fix_fn (fn := ir227) tb_227 rfl rfl (by decide) rfl ?_; simp only [shutArgs, shutS, List.map_cons, List.map_nil, ir227, shut_in h0, List.head?_nil, reduceCtorEq, if_false, sExt, sHello, sAnswer, sEdit, sDeal, sBox, sDialed, sKnown]
    generalize hr : (⟨_, [], none⟩ : Ret) = r
    obtain ⟨ea, hea⟩ : ∃ y_, y_ = row f l := ⟨_, rfl⟩
    rw [← hea]
    intro add sub mul arith eq ne lt le gt ge neg conv mn mx not beq len at' ln bd cut app allS isNil mks set o hP F ho
    have le := F.len_at hea
    unfold At at le
    have hs : lt (sub .i64 left (len ea)) 0 = true := by rw [F.lt, F.sub, le, wrap64 (by omega) (by omega)]; simp; omega
    cbv
    rw [hs]
    cbv
    exact congrArg some hr
  · rw [show sz1 l.length left = left - l.length by unfold sz1; rw [if_neg hl]]
    refine fix_fn (fn := ir227) tb_227 rfl rfl (by decide) rfl ?_; simp only [shutArgs, shutS, List.map_cons, List.map_nil, ir227, shut_in h0, List.head?_nil, reduceCtorEq, if_false, sExt, sHello, sAnswer, sEdit, sDeal, sBox, sDialed, sKnown]
    obtain ⟨v, hv⟩ : ∃ y_, y_ = left - l.length := ⟨_, rfl⟩
    rw [← hv]
    generalize hr : (⟨_, [], none⟩ : Ret) = r
    obtain ⟨ea, hea⟩ : ∃ y_, y_ = row f l := ⟨_, rfl⟩
    rw [← hea]
    intro add sub mul arith eq ne lt le gt ge neg conv mn mx not beq len at' ln bd cut app allS isNil mks set o hP F ho
    have le := F.len_at hea
    unfold At at le
    have e1 : sub .i64 left (len ea) = v := by rw [F.sub, le, wrap64 (by omega) (by omega), hv]
    have hs : lt v 0 = false := by rw [F.lt, hv]; simp; omega
    cbv
    rw [e1, hs]
    cbv
    exact congrArg some hr

/- laws.szExt -/
theorem ok319 (x : Ext) (left : Int) (w : x.Fits) (h1 : 0 ≤ left) (h2 : left ≤ 1048576) {f0 : Fl} (q0 : inFl f0 = true) :
    fix Tb md 319 [sExt x.tag (row fI x.body) f0, I left] = some ⟨[I (szExt x left)], [], none⟩ := by
  refine fix_fn (fn := ir319) tb_319 rfl rfl (by decide) rfl ?_; simp only [shutArgs, shutS, List.map_cons, List.map_nil, ir319, shut_in q0, List.head?_nil, reduceCtorEq, if_false, sExt, sHello, sAnswer, sEdit, sDeal, sBox, sDialed, sKnown]
  obtain ⟨v1, hv1⟩ : ∃ y_, y_ = sz1 x.body.length left := ⟨_, rfl⟩
  rw [show szExt x left = v1 by rw [hv1]; rfl]
  generalize hr : (⟨_, [], none⟩ : Ret) = r
  obtain ⟨e1, he1⟩ : ∃ y_, y_ = row fI x.body := ⟨_, rfl⟩
  rw [← he1]
  have g1 : v1 ≤ 1048576 := by rw [hv1]; exact (Sz.of1 x.body.length).up h2
  have l1 : -1 ≤ v1 := by rw [hv1]; exact (Sz.of1 x.body.length).lo _ h2
  unfold Ext.Fits at w
  intro add sub mul arith eq ne lt le gt ge neg conv mn mx not beq len at' ln bd cut app allS isNil mks set o hP F ho
  have c1 : o 227 [R e1 (.sp 0 0), I left] = some ⟨[I v1], [], none⟩ := by rw [ho, hv1, he1]; exact ok227 fI _ _ w.2.1 h1 h2 rfl
  cbv
  rw [c1]; cbv
  refine both (fun d1 => ?_) (fun d1 => ?_) <;> rw [d1] <;> cbv
  · clear hP c1 ho; simp only [F.lt, decide_eq_true_eq] at d1; clear F; rw [← hr, show v1 = -1 by omega]
  exact congrArg some hr

/- laws.szExtS -/
theorem ok197 (l : List Ext) (left : Int) (w : l.length ≤ 9223372036854775807 ∧ ∀ y ∈ l, y.Fits) (h1 : 0 ≤ left) (h2 : left ≤ 1048576) {f0 : Fl} (q0 : inFl f0 = true) :
    fix Tb md 197 [R (row fExt l) f0, I left] = some ⟨[I (szL szExt l left)], [], none⟩ := by
  have w1 := w.1
  by_cases hl : left - l.length < 0
  · rw [show szL szExt l left = -1 from szF_neg szExt_Sz l _ (by unfold sz1; rw [if_pos hl])]
    refine fix_fn (fn := ir197) tb_197 rfl rfl (by decide) rfl ?_; simp only [shutArgs, shutS, List.map_cons, List.map_nil, ir197, shut_in q0, List.head?_nil, reduceCtorEq, if_false, sExt, sHello, sAnswer, sEdit, sDeal, sBox, sDialed, sKnown]
    generalize hr : (⟨_, [], none⟩ : Ret) = r
    obtain ⟨ea, hea⟩ : ∃ y_, y_ = row fExt l := ⟨_, rfl⟩
    rw [← hea]
    intro add sub mul arith eq ne lt le gt ge neg conv mn mx not beq len at' ln bd cut app allS isNil mks set o hP F ho
    have le := F.len_at hea
    unfold At at le
    have hs : lt (sub .i64 left (len ea)) 0 = true := by rw [F.lt, F.sub, le, wrap64 (by omega) (by omega)]; simp; omega
    cbv
    rw [hs]
    cbv
    exact congrArg some hr
  · have hT : szL szExt l left = l.foldl (fun a x => szExt x a) (left - l.length) := by unfold szL sz1; rw [if_neg hl]
    rw [hT]
    refine fix_fn (fn := ir197) tb_197 rfl rfl (by decide) rfl ?_; simp only [shutArgs, shutS, List.map_cons, List.map_nil, ir197, shut_in q0, List.head?_nil, reduceCtorEq, if_false, sExt, sHello, sAnswer, sEdit, sDeal, sBox, sDialed, sKnown]
    obtain ⟨v, hv⟩ : ∃ y_, y_ = left - l.length := ⟨_, rfl⟩
    rw [← hv]
    have u3 : 0 ≤ v := by omega
    have u4 : v ≤ 1048576 := by omega
    have u5 : l.length ≤ 1048576 := by omega
    obtain ⟨T, hT⟩ : ∃ y_, y_ = l.foldl (fun a x => szExt x a) v := ⟨_, rfl⟩
    rw [← hT]
    generalize hr : (⟨_, [], none⟩ : Ret) = r
    obtain ⟨ea, hea⟩ : ∃ y_, y_ = row fExt l := ⟨_, rfl⟩
    rw [← hea]
    intro add sub mul arith eq ne lt le gt ge neg conv mn mx not beq len at' ln bd cut app allS isNil mks set o hP F ho
    have le := F.len_at hea
    have e1 : sub .i64 left (len ea) = v := by unfold At at le; rw [F.sub, le, wrap64 (by omega) (by omega), hv]
    have hs : lt v 0 = false := by rw [F.lt, hv]; simp; omega
    cbv
    rw [e1, hs]
    cbv
    refine loop_ind hP (σ := List (Ext) × List (Ext) × Int × Int) (fun s => [(0, R ea .sh), (1, I s.2.2.1), (4, I 0), (5, I s.2.2.2)])
      (fun s => At s.2.2.2 s.2.1.length ∧ l = s.2.1 ++ s.1 ∧ 0 ≤ s.2.2.1 ∧ s.2.2.1 ≤ 1048576 ∧ s.1.foldl (fun a x => szExt x a) s.2.2.1 = T) (fun s => s.1.length) (l, [], v, 0) rfl ⟨rfl, rfl, u3, u4, hT.symm⟩ ?_
    rintro ⟨suf, pre, a, i⟩ ⟨hi, hl', ha0, ha1, hf⟩ ih
    simp only at hi hl' ha0 ha1 hf ih
    cbv
    cases suf with
    | nil =>
      rw [F.lt_f hi le (by simp [hl'])]; cbv
      simp only [List.foldl_nil] at hf
      rw [← hr, hf]
    | cons x suf =>
      rw [F.lt_t hi le (by simp [hl'])]; cbv
      rw [List.foldl_cons] at hf
      obtain ⟨e1, he1⟩ : ∃ y_, y_ = row fI x.body := ⟨_, rfl⟩
      obtain ⟨ix, hix⟩ : ∃ y_, y_ = pre.length * 2 := ⟨_, rfl⟩
      rw [show at' 2 ea i = some (ix, [.int .i64 x.tag, .row () e1]) by rw [hix, he1]; exact F.get hi hea hl' (fun _ => rfl) (by decide)]; cbv
      obtain ⟨a', ha'⟩ : ∃ y_, y_ = szExt x a := ⟨_, rfl⟩
      rw [← ha'] at hf
      have u1 : a' ≤ 1048576 := by rw [ha']; exact (szExt_Sz x).up ha1
      have u2 : -1 ≤ a' := by rw [ha']; exact (szExt_Sz x).lo _ ha1
      have c1 : o 319 [sExt x.tag e1 (.sp 0 1), I a] = some ⟨[I a'], [], none⟩ := by rw [ho, ha', he1]; exact ok319 x a (w.2 x (by rw [hl']; simp)) ha0 ha1 rfl
      rw [c1]; cbv
      refine both (fun c => ?_) (fun c => ?_) <;> rw [c] <;> cbv
      · simp only [F.lt, decide_eq_true_eq] at c
        rw [← hr, ← hf, szF_neg szExt_Sz suf a' (by omega)]
      · simp only [F.lt, decide_eq_false_iff_not] at c
        refine ih (suf, pre ++ [x], a', add .i64 i 1) ⟨at_len (F.inc hi (by simp [hl'] at u5; omega)) (by simp), by simp [hl'], by simp only; omega, u1, hf⟩ (by simp)

/- laws.szAnswer -/
theorem ok126 (x : Answer) (left : Int) (w : x.Fits) (h1 : 0 ≤ left) (h2 : left ≤ 1048576) {f0 : Fl} (q0 : inFl f0 = true) :
    fix Tb md 126 [sAnswer x.version (row fExt x.exts) f0, I left] = some ⟨[I (szAnswer x left)], [], none⟩ := by
  refine fix_fn (fn := ir126) tb_126 rfl rfl (by decide) rfl ?_; simp only [shutArgs, shutS, List.map_cons, List.map_nil, ir126, shut_in q0, List.head?_nil, reduceCtorEq, if_false, sExt, sHello, sAnswer, sEdit, sDeal, sBox, sDialed, sKnown]
  obtain ⟨v1, hv1⟩ : ∃ y_, y_ = szL szExt x.exts left := ⟨_, rfl⟩
  rw [show szAnswer x left = v1 by rw [hv1]; rfl]
  generalize hr : (⟨_, [], none⟩ : Ret) = r
  obtain ⟨e1, he1⟩ : ∃ y_, y_ = row fExt x.exts := ⟨_, rfl⟩
  rw [← he1]
  have g1 : v1 ≤ 1048576 := by rw [hv1]; exact (Sz.list szExt_Sz x.exts).up h2
  have l1 : -1 ≤ v1 := by rw [hv1]; exact (Sz.list szExt_Sz x.exts).lo _ h2
  unfold Answer.Fits at w
  intro add sub mul arith eq ne lt le gt ge neg conv mn mx not beq len at' ln bd cut app allS isNil mks set o hP F ho
  have c1 : o 197 [R e1 (.sp 0 0), I left] = some ⟨[I v1], [], none⟩ := by rw [ho, hv1, he1]; exact ok197 _ _ w.2 h1 h2 rfl
  cbv
  rw [c1]; cbv
  refine both (fun d1 => ?_) (fun d1 => ?_) <;> rw [d1] <;> cbv
  · clear hP c1 ho; simp only [F.lt, decide_eq_true_eq] at d1; clear F; rw [← hr, show v1 = -1 by omega]
  exact congrArg some hr

/- laws.toIntS -/
theorem ok76 (l : List Int) (hl : l.length ≤ 1099511627776) {f0 : Fl} (h0 : inFl f0 = true) : fix Tb md 76 [R (row fI l) f0] = some ⟨[R (row fI l) (.ow false)], [], none⟩ := by
  refine fix_fn (fn := ir76) tb_76 rfl rfl (by decide) rfl ?_; simp only [shutArgs, shutS, List.map_cons, List.map_nil, ir76, shut_in h0, List.head?_nil, reduceCtorEq, if_false, sExt, sHello, sAnswer, sEdit, sDeal, sBox, sDialed, sKnown]
  generalize hr : (⟨_, [], none⟩ : Ret) = r
  obtain ⟨e1, he1⟩ : ∃ y_, y_ = row fI l := ⟨_, rfl⟩
  rw [← he1] at hr ⊢
  intro add sub mul arith eq ne lt le gt ge neg conv mn mx not beq len at' ln bd cut app allS isNil mks set o hP F ho
  have la := F.len_at he1
  cbv
  obtain ⟨e2, he2⟩ : ∃ y_, y_ = row fI (List.replicate l.length 0) := ⟨_, rfl⟩
  rw [show mks [.int .i64 0] (len e1) (len e1) = some e2 by rw [F.mks, show len e1 = _ from la, he2]; exact row_mk (f := fI) (a := 0) rfl (by simp [fI]) hl]; cbv
  refine loop_ind hP (σ := List Int × List Int × List (List V) × Int) (fun s => [(0, R e1 .sh), (2, R [] .nl), (3, R s.2.2.1 (.ow false)), (4, I s.2.2.2)])
    (fun s => At s.2.2.2 s.2.1.length ∧ l = s.2.1 ++ s.1 ∧ s.2.2.1 = row fI (s.2.1 ++ List.replicate s.1.length 0)) (fun s => s.1.length) (l, [], e2, 0) rfl ⟨rfl, rfl, by simpa using he2⟩ ?_
  rintro ⟨suf, pre, eo, i⟩ ⟨hi, hl', heo⟩ ih
  simp only at hi hl' heo ih
  cbv
  cases suf with
  | nil =>
    rw [F.lt_f hi la (by simp [hl'])]; cbv
    rw [← hr, heo, he1, hl']; simp
  | cons x suf =>
    rw [F.lt_t hi la (by simp [hl'])]; cbv
    obtain ⟨ix, hix⟩ : ∃ y_, y_ = pre.length * 1 := ⟨_, rfl⟩
    rw [show at' 1 e1 i = some (ix, [.int .i64 x]) by rw [hix]; exact F.get hi he1 hl' (fun _ => rfl) (by decide)]; cbv
    rw [show at' 1 eo i = some (ix, [.int .i64 0]) by rw [hix]; exact F.get hi heo rfl (fun _ => rfl) (by decide)]; cbv
    obtain ⟨eo', heo'⟩ : ∃ y_, y_ = row fI (pre ++ x :: List.replicate suf.length 0) := ⟨_, rfl⟩
    rw [show set eo ix [.int .i64 x] = some eo' by rw [F.set, heo, hix, heo']; exact set_one (fun _ => rfl) rfl]; cbv
    refine ih (suf, pre ++ [x], eo', add .i64 i 1) ⟨at_len (F.inc hi (by simp [hl'] at hl; omega)) (by simp), by simp [hl'], by simp [heo']⟩ (by simp)

/- laws.toExt -/
theorem ok320 (x : Ext) (w : x.Mid) {f0 : Fl} (q0 : inFl f0 = true) :
    fix Tb md 320 [sExt x.tag (row fI x.body) f0] = some ⟨[sExt x.tag (row fI x.body) (.ow false)], [], none⟩ := by
  refine fix_fn (fn := ir320) tb_320 rfl rfl (by decide) rfl ?_; simp only [shutArgs, shutS, List.map_cons, List.map_nil, ir320, shut_in q0, List.head?_nil, reduceCtorEq, if_false, sExt, sHello, sAnswer, sEdit, sDeal, sBox, sDialed, sKnown]
  generalize hr : (⟨_, [], none⟩ : Ret) = r
  obtain ⟨e1, he1⟩ : ∃ y_, y_ = row fI x.body := ⟨_, rfl⟩
  rw [← he1] at hr ⊢
  unfold Ext.Mid at w
  intro add sub mul arith eq ne lt le gt ge neg conv mn mx not beq len at' ln bd cut app allS isNil mks set o hP F ho
  have c1 : o 76 [R e1 (.sp 0 0)] = some ⟨[R e1 (.ow false)], [], none⟩ := by rw [ho, he1]; exact ok76 _ (by have := w; omega) rfl
  cbv
  rw [c1]; cbv
  exact congrArg some hr

/- laws.toExtS -/
theorem ok199 (l : List (Ext)) (w : l.length ≤ 1073741824 ∧ ∀ y ∈ l, y.Mid) {f0 : Fl} (q0 : inFl f0 = true) :
    fix Tb md 199 [R (row fExt l) f0] = some ⟨[R (row fExt l) (.ow false)], [], none⟩ := by
  have w1 := w.1
  refine fix_fn (fn := ir199) tb_199 rfl rfl (by decide) rfl ?_; simp only [shutArgs, shutS, List.map_cons, List.map_nil, ir199, shut_in q0, List.head?_nil, reduceCtorEq, if_false, sExt, sHello, sAnswer, sEdit, sDeal, sBox, sDialed, sKnown]
  generalize hr : (⟨_, [], none⟩ : Ret) = r
  obtain ⟨ea, hea⟩ : ∃ y_, y_ = row fExt l := ⟨_, rfl⟩
  rw [← hea] at hr ⊢
  intro add sub mul arith eq ne lt le gt ge neg conv mn mx not beq len at' ln bd cut app allS isNil mks set o hP F ho
  have la := F.len_at hea
  cbv
  obtain ⟨e0, he0⟩ : ∃ y_, y_ = row fExt (List.replicate l.length (⟨0, []⟩ : Ext)) := ⟨_, rfl⟩
  rw [show mks [.int .i64 0, .row () []] (len ea) (len ea) = some e0 by rw [F.mks, show len ea = _ from la, he0]; exact row_mk (f := fExt) (a := (⟨0, []⟩ : Ext)) rfl (by simp [fExt]) (show l.length ≤ 1099511627776 by omega)]; cbv
  refine loop_ind hP (σ := List (Ext) × List (Ext) × List (List V) × Int) (fun s => [(0, R ea .sh), (2, R [] .nl), (3, R s.2.2.1 (.ow false)), (4, I s.2.2.2)])
    (fun s => At s.2.2.2 s.2.1.length ∧ l = s.2.1 ++ s.1 ∧ s.2.2.1 = row fExt (s.2.1 ++ List.replicate s.1.length (⟨0, []⟩ : Ext))) (fun s => s.1.length) (l, [], e0, 0) rfl ⟨rfl, rfl, by simpa using he0⟩ ?_
  rintro ⟨suf, pre, eo, i⟩ ⟨hi, hl', heo⟩ ih
  simp only at hi hl' heo ih
  cbv
  cases suf with
  | nil =>
    rw [F.lt_f hi la (by simp [hl'])]; cbv
    rw [← hr, heo, hea, hl']; simp
  | cons x suf =>
    rw [F.lt_t hi la (by simp [hl'])]; cbv
    obtain ⟨e1, he1⟩ : ∃ y_, y_ = row fI x.body := ⟨_, rfl⟩
    obtain ⟨ix, hix⟩ : ∃ y_, y_ = pre.length * 2 := ⟨_, rfl⟩
    rw [show at' 2 ea i = some (ix, [.int .i64 x.tag, .row () e1]) by rw [hix, he1]; exact F.get hi hea hl' (fun _ => rfl) (by decide)]; cbv
    have c1 : o 320 [sExt x.tag e1 (.sp 0 1)] = some ⟨[sExt x.tag e1 (.ow false)], [], none⟩ := by rw [ho, he1]; exact ok320 x (w.2 x (by rw [hl']; simp)) rfl
    rw [c1]; cbv
    rw [show at' 2 eo i = some (ix, [.int .i64 0, .row () []]) by rw [hix]; exact F.get hi heo rfl (fun _ => rfl) (by decide)]; cbv
    obtain ⟨eo', heo'⟩ : ∃ y_, y_ = row fExt (pre ++ x :: List.replicate suf.length (⟨0, []⟩ : Ext)) := ⟨_, rfl⟩
    rw [show set eo ix [.int .i64 x.tag, .row () e1] = some eo' by rw [F.set, heo, hix, heo', he1]; exact set_all (fun _ => rfl) rfl]; cbv
    refine ih (suf, pre ++ [x], eo', add .i64 i 1) ⟨at_len (F.inc hi (by simp [hl'] at w1; omega)) (by simp), by simp [hl'], by simp [heo']⟩ (by simp)

/- laws.toAnswer -/
theorem ok128 (x : Answer) (w : x.Mid) {f0 : Fl} (q0 : inFl f0 = true) :
    fix Tb md 128 [sAnswer x.version (row fExt x.exts) f0] = some ⟨[sAnswer x.version (row fExt x.exts) (.ow false)], [], none⟩ := by
  refine fix_fn (fn := ir128) tb_128 rfl rfl (by decide) rfl ?_; simp only [shutArgs, shutS, List.map_cons, List.map_nil, ir128, shut_in q0, List.head?_nil, reduceCtorEq, if_false, sExt, sHello, sAnswer, sEdit, sDeal, sBox, sDialed, sKnown]
  generalize hr : (⟨_, [], none⟩ : Ret) = r
  obtain ⟨e1, he1⟩ : ∃ y_, y_ = row fExt x.exts := ⟨_, rfl⟩
  rw [← he1] at hr ⊢
  unfold Answer.Mid at w
  intro add sub mul arith eq ne lt le gt ge neg conv mn mx not beq len at' ln bd cut app allS isNil mks set o hP F ho
  have c1 : o 199 [R e1 (.sp 0 0)] = some ⟨[R e1 (.ow false)], [], none⟩ := by rw [ho, he1]; exact ok199 _ w rfl
  cbv
  rw [c1]; cbv
  exact congrArg some hr

/- laws.eqIntS -/
theorem ok79 (a b : List Int) (hl : a.length ≤ 1099511627776) {f0 f1 : Fl} (h0 : inFl f0 = true) (h1 : inFl f1 = true) : fix Tb md 79 [R (row fI a) f0, R (row fI b) f1] = some ⟨[B (decide (a = b))], [], none⟩ := by
  refine fix_fn (fn := ir79) tb_79 rfl rfl (by decide) rfl ?_; simp only [shutArgs, shutS, List.map_cons, List.map_nil, ir79, shut_in h0, shut_in h1, List.head?_nil, reduceCtorEq, if_false, sExt, sHello, sAnswer, sEdit, sDeal, sBox, sDialed, sKnown]
  generalize hr : (⟨_, [], none⟩ : Ret) = r
  obtain ⟨ea, hea⟩ : ∃ y_, y_ = row fI a := ⟨_, rfl⟩
  obtain ⟨eb, heb⟩ : ∃ y_, y_ = row fI b := ⟨_, rfl⟩
  rw [← hea, ← heb]
  intro add sub mul arith eq ne lt le gt ge neg conv mn mx not beq len at' ln bd cut app allS isNil mks set o hP F ho
  have la := F.len_at hea
  have lb := F.len_at heb
  cbv
  by_cases hab : a.length = b.length
  · rw [F.ne_f (by unfold At at la lb; omega)]; cbv
    refine loop_ind hP (σ := List Int × List Int × List Int × Int) (fun s => [(0, R ea .sh), (1, R eb .sh), (4, B false), (5, I s.2.2.2)]) (fun s => At s.2.2.2 s.1.length ∧ a = s.1 ++ s.2.1 ∧ b = s.1 ++ s.2.2.1) (fun s => s.2.1.length) ([], a, b, 0) rfl ⟨rfl, rfl, rfl⟩ ?_
    rintro ⟨pre, sa, sb, i⟩ ⟨hi, ha, hb⟩ ih
    simp only at hi ha hb ih
    cbv
    have hlen : sa.length = sb.length := by simp [ha, hb] at hab; exact hab
    match sa, sb, hlen, ha, hb with
    | [], [], _, ha, hb =>
      rw [F.lt_f hi la (by simp [ha])]; cbv
      rw [← hr]; simp [ha, hb]
    | x :: sa, y :: sb, _, ha, hb =>
      rw [F.lt_t hi la (by simp [ha])]; cbv
      obtain ⟨ix, hix⟩ : ∃ y_, y_ = pre.length * 1 := ⟨_, rfl⟩
      rw [show at' 1 ea i = some (ix, [.int .i64 x]) by rw [hix]; exact F.get hi hea ha (fun _ => rfl) (by decide)]; cbv
      rw [show at' 1 eb i = some (ix, [.int .i64 y]) by rw [hix]; exact F.get hi heb hb (fun _ => rfl) (by decide)]; cbv
      by_cases hxy : x = y
      · rw [F.ne_f hxy]; cbv
        refine ih (pre ++ [x], sa, sb, add .i64 i 1) ⟨at_len (F.inc hi (by simp [ha] at hl; omega)) (by simp), by simp [ha], by simp [hb, hxy]⟩ (by simp)
      · rw [F.ne_t hxy]; cbv
        rw [← hr]; simp [ha, hb, hxy]
  · rw [F.ne_t (by unfold At at la lb; omega)]; cbv
    rw [← hr]
    simp
    intro e; exact hab (by rw [e])
theorem ok79t (a : List Int) (hl : a.length ≤ 1099511627776) {f0 f1 : Fl} (h0 : inFl f0 = true) (h1 : inFl f1 = true) : fix Tb md 79 [R (row fI a) f0, R (row fI a) f1] = some ⟨[B true], [], none⟩ := by simpa using ok79 a a hl h0 h1

/- laws.eqExt -/
theorem ok321 (x : Ext) (w : x.Mid) {f0 : Fl} (q0 : inFl f0 = true) {g0 : Fl} (p0 : inFl g0 = true) :
    fix Tb md 321 [sExt x.tag (row fI x.body) f0, sExt x.tag (row fI x.body) g0] = some ⟨[B true], [], none⟩ := by
  refine fix_fn (fn := ir321) tb_321 rfl rfl (by decide) rfl ?_; simp only [shutArgs, shutS, List.map_cons, List.map_nil, ir321, shut_in q0, shut_in p0, List.head?_nil, reduceCtorEq, if_false, sExt, sHello, sAnswer, sEdit, sDeal, sBox, sDialed, sKnown]
  generalize hr : (⟨_, [], none⟩ : Ret) = r
  obtain ⟨e1, he1⟩ : ∃ y_, y_ = row fI x.body := ⟨_, rfl⟩
  rw [← he1]
  unfold Ext.Mid at w
  intro add sub mul arith eq ne lt le gt ge neg conv mn mx not beq len at' ln bd cut app allS isNil mks set o hP F ho
  have c1 : o 79 [R e1 (.sp 0 0), R e1 (.sp 1 0)] = some ⟨[B true], [], none⟩ := by rw [ho, he1]; exact ok79t _ (by have := w; omega) rfl rfl
  cbv
  rw [F.ne_f rfl]; cbv
  rw [c1]; cbv
  rw [show not true = false by rw [F.not]; rfl]; cbv
  exact congrArg some hr

/- laws.eqExtS -/
theorem ok200 (l : List (Ext)) (w : l.length ≤ 1073741824 ∧ ∀ y ∈ l, y.Mid) {f0 f1 : Fl} (q0 : inFl f0 = true) (q1 : inFl f1 = true) :
    fix Tb md 200 [R (row fExt l) f0, R (row fExt l) f1] = some ⟨[B true], [], none⟩ := by
  have w1 := w.1
  refine fix_fn (fn := ir200) tb_200 rfl rfl (by decide) rfl ?_; simp only [shutArgs, shutS, List.map_cons, List.map_nil, ir200, shut_in q0, shut_in q1, List.head?_nil, reduceCtorEq, if_false, sExt, sHello, sAnswer, sEdit, sDeal, sBox, sDialed, sKnown]
  generalize hr : (⟨_, [], none⟩ : Ret) = r
  obtain ⟨ea, hea⟩ : ∃ y_, y_ = row fExt l := ⟨_, rfl⟩
  rw [← hea]
  intro add sub mul arith eq ne lt le gt ge neg conv mn mx not beq len at' ln bd cut app allS isNil mks set o hP F ho
  have la := F.len_at hea
  cbv
  rw [F.ne_f rfl]; cbv
  refine loop_ind hP (σ := List (Ext) × List (Ext) × Int) (fun s => [(0, R ea .sh), (1, R ea .sh), (4, B false), (5, I s.2.2)])
    (fun s => At s.2.2 s.2.1.length ∧ l = s.2.1 ++ s.1) (fun s => s.1.length) (l, [], 0) rfl ⟨rfl, rfl⟩ ?_
  rintro ⟨suf, pre, i⟩ ⟨hi, hl'⟩ ih
  simp only at hi hl' ih
  cbv
  cases suf with
  | nil =>
    rw [F.lt_f hi la (by simp [hl'])]; cbv
    exact congrArg some hr
  | cons x suf =>
    rw [F.lt_t hi la (by simp [hl'])]; cbv
    obtain ⟨e1, he1⟩ : ∃ y_, y_ = row fI x.body := ⟨_, rfl⟩
    obtain ⟨ix, hix⟩ : ∃ y_, y_ = pre.length * 2 := ⟨_, rfl⟩
    have a1 : at' 2 ea i = some (ix, [.int .i64 x.tag, .row () e1]) := by rw [hix, he1]; exact F.get hi hea hl' (fun _ => rfl) (by decide)
    rw [a1]; cbv
    try (rw [a1]; cbv)
    have c1 : o 321 [sExt x.tag e1 (.sp 0 1), sExt x.tag e1 (.sp 1 1)] = some ⟨[B true], [], none⟩ := by rw [ho, he1]; exact ok321 x (w.2 x (by rw [hl']; simp)) rfl rfl
    rw [c1]; cbv
    rw [show not true = false by rw [F.not]; rfl]; cbv
    refine ih (suf, pre ++ [x], add .i64 i 1) ⟨at_len (F.inc hi (by simp [hl'] at w1; omega)) (by simp), by simp [hl']⟩ (by simp)

/- laws.eqAnswer -/
theorem ok129 (x : Answer) (w : x.Mid) {f0 : Fl} (q0 : inFl f0 = true) {g0 : Fl} (p0 : inFl g0 = true) :
    fix Tb md 129 [sAnswer x.version (row fExt x.exts) f0, sAnswer x.version (row fExt x.exts) g0] = some ⟨[B true], [], none⟩ := by
  refine fix_fn (fn := ir129) tb_129 rfl rfl (by decide) rfl ?_; simp only [shutArgs, shutS, List.map_cons, List.map_nil, ir129, shut_in q0, shut_in p0, List.head?_nil, reduceCtorEq, if_false, sExt, sHello, sAnswer, sEdit, sDeal, sBox, sDialed, sKnown]
  generalize hr : (⟨_, [], none⟩ : Ret) = r
  obtain ⟨e1, he1⟩ : ∃ y_, y_ = row fExt x.exts := ⟨_, rfl⟩
  rw [← he1]
  unfold Answer.Mid at w
  intro add sub mul arith eq ne lt le gt ge neg conv mn mx not beq len at' ln bd cut app allS isNil mks set o hP F ho
  have c1 : o 200 [R e1 (.sp 0 0), R e1 (.sp 1 0)] = some ⟨[B true], [], none⟩ := by rw [ho, he1]; exact ok200 _ w rfl rfl
  cbv
  rw [F.ne_f rfl]; cbv
  rw [c1]; cbv
  rw [show not true = false by rw [F.not]; rfl]; cbv
  exact congrArg some hr

/- laws.toEdit -/
theorem ok155 (x : Edit) (w : x.Mid) :
    fix Tb md 155 [sEdit x.kind x.n ] = some ⟨[sEdit x.kind x.n ], [], none⟩ := by
  refine fix_fn (fn := ir155) tb_155 rfl rfl (by decide) rfl ?_; simp only [shutArgs, shutS, List.map_cons, List.map_nil, ir155, List.head?_nil, reduceCtorEq, if_false, sExt, sHello, sAnswer, sEdit, sDeal, sBox, sDialed, sKnown]
  generalize hr : (⟨_, [], none⟩ : Ret) = r
  unfold Edit.Mid at w
  intro add sub mul arith eq ne lt le gt ge neg conv mn mx not beq len at' ln bd cut app allS isNil mks set o hP F ho
  cbv
  exact congrArg some hr

/- laws.heldIntS -/
theorem ok125 (l : List Int) (k : Int) (hk : Lim k l.length) (hl : l.length ≤ 1099511627776) {f0 : Fl} (h0 : inFl f0 = true) : fix Tb md 125 [R (row fI (mI l k)) f0, I k] = some ⟨[I (k + (l.length : Int))], [], none⟩ := by
  obtain ⟨t, ht⟩ : ∃ y_, y_ = k + (l.length : Int) := ⟨_, rfl⟩
  have hT : AtK t k l.length := ht
  rw [← ht]
  clear ht
  refine fix_fn (fn := ir125) tb_125 rfl rfl (by decide) rfl ?_; simp only [shutArgs, shutS, List.map_cons, List.map_nil, ir125, shut_in h0, List.head?_nil, reduceCtorEq, if_false, sExt, sHello, sAnswer, sEdit, sDeal, sBox, sDialed, sKnown]
  generalize hr : (⟨_, [], none⟩ : Ret) = r
  obtain ⟨ea, hea⟩ : ∃ y_, y_ = row fI (mI l k) := ⟨_, rfl⟩
  rw [← hea]
  intro add sub mul arith eq ne lt le gt ge neg conv mn mx not beq len at' ln bd cut app allS isNil mks set o hP F ho
  have la := F.len_at hea
  cbv
  refine loop_ind hP (σ := List Int × List Int × Int × Int) (fun s => [(0, R ea .sh), (1, I s.2.2.1), (4, I 0), (5, I s.2.2.2)])
    (fun s => At s.2.2.2 s.2.1.length ∧ AtK s.2.2.1 k s.2.1.length ∧ l = s.2.1 ++ s.1) (fun s => s.1.length) (l, [], k, 0) rfl ⟨rfl, AtK.zero, rfl⟩ ?_
  rintro ⟨suf, pre, x, i⟩ ⟨hi, hx, hl'⟩ ih
  simp only at hi hx hl' ih
  cbv
  cases suf with
  | nil =>
    rw [F.lt_f hi la (by rw [mI_len, hl']; simp)]; cbv
    rw [← hr, show x = t by rw [hx.same, hT.same, hl']; simp]
  | cons y suf =>
    have hl3 : pre.length + 1 ≤ l.length := by rw [hl']; simp
    have a1 : add .i64 x 1 = x + 1 := by rw [F.add, hx.inc hk (by omega)]
    have hm : mI l k = mI pre k ++ x :: mI suf (x + 1) := by rw [hl', mI_app pre _ k x hx]; rfl
    rw [F.lt_t hi la (by rw [mI_len, hl']; simp)]; cbv
    obtain ⟨ix, hix⟩ : ∃ y_, y_ = pre.length * 1 := ⟨_, rfl⟩
    rw [show at' 1 ea i = some (ix, [.int .i64 x]) by rw [hix]; have h := F.get (f := fI) (k := 1) (show At i (mI pre k).length by rw [mI_len]; exact hi) hea hm (fun _ => rfl) (by decide); rw [mI_len] at h; exact h]; cbv
    rw [F.ne_f rfl]; cbv
    rw [a1]
    refine ih (suf, pre ++ [y], x + 1, add .i64 i 1) ⟨at_len (F.inc hi (by omega)) (by simp), hx.one.eq (by simp), by simp [hl']⟩ (by simp)

/- laws.heldExtS -/
set_option maxHeartbeats 2000000 in
theorem ok236 (l : List Ext) (k : Int) (hk : Lim k (cExtS l)) (hl : l.length ≤ 1099511627776) (w0 : ∀ y ∈ l, y.body.length ≤ 1099511627776) {f0 : Fl} (h0 : inFl f0 = true) : fix Tb md 236 [R (row fExt (mExtS l k)) f0, I k] = some ⟨[I (k + (cExtS l : Int))], [], none⟩ := by
  obtain ⟨t, ht⟩ : ∃ y_, y_ = k + (cExtS l : Int) := ⟨_, rfl⟩
  have hT : AtK t k (cExtS l) := ht
  rw [← ht]
  clear ht
  refine fix_fn (fn := ir236) tb_236 rfl rfl (by decide) rfl ?_; simp only [shutArgs, shutS, List.map_cons, List.map_nil, ir236, shut_in h0, List.head?_nil, reduceCtorEq, if_false, sExt, sHello, sAnswer, sEdit, sDeal, sBox, sDialed, sKnown]
  generalize hr : (⟨_, [], none⟩ : Ret) = r
  obtain ⟨ea, hea⟩ : ∃ y_, y_ = row fExt (mExtS l k) := ⟨_, rfl⟩
  rw [← hea]
  intro add sub mul arith eq ne lt le gt ge neg conv mn mx not beq len at' ln bd cut app allS isNil mks set o hP F ho
  have la := F.len_at hea
  cbv
  refine loop_ind hP (σ := List Ext × List Ext × Int × Int) (fun s => [(0, R ea .sh), (1, I s.2.2.1), (4, I 0), (5, I s.2.2.2)])
    (fun s => At s.2.2.2 s.2.1.length ∧ AtK s.2.2.1 k (cExtS s.2.1) ∧ l = s.2.1 ++ s.1) (fun s => s.1.length) (l, [], k, 0) rfl ⟨rfl, AtK.zero, rfl⟩ ?_
  rintro ⟨suf, pre, z0, i⟩ ⟨hi, a0, hl'⟩ ih
  simp only at hi a0 hl' ih
  cbv
  cases suf with
  | nil =>
    rw [F.lt_f hi la (by rw [mExtS_len, hl']; simp)]; cbv
    rw [← hr, show z0 = t by rw [a0.same, hT.same, hl']; simp]
  | cons x suf =>
    have hl3 : pre.length + 1 ≤ l.length := by rw [hl']; simp
    have hc : cExtS l = cExtS pre + (cExt x + cExtS suf) := by rw [hl']; simp [cExtS]
    have hcx : cExt x = 1 + x.body.length := rfl
    obtain ⟨z1, hz1⟩ : ∃ y_, y_ = z0 + 1 := ⟨_, rfl⟩
    have a1 : AtK z1 k (cExtS pre + 1) := hz1 ▸ a0.one
    have s1 : add .i64 z0 1 = z1 := by rw [F.add, a0.inc hk (by omega), hz1]
    obtain ⟨z2, hz2⟩ : ∃ y_, y_ = z1 + (x.body.length : Int) := ⟨_, rfl⟩
    have a2 : AtK z2 k (cExtS pre + 1 + x.body.length) := hz2 ▸ a1.plus
    have m2 : Lim z1 x.body.length := a1.lim hk (by omega)
    have n2 : 0 ≤ z2 := by have := m2.nn; omega
    have hmx : mExt x z0 = (⟨z0, (mI x.body z1)⟩ : Ext) := by simp only [mExt, hz1, hz2]
    have hzn : z0 + (cExt x : Int) = z2 := by rw [hcx, a2.same, a0.same]; omega
    have hm : mExtS l k = mExtS pre k ++ (⟨z0, (mI x.body z1)⟩ : Ext) :: mExtS suf z2 := by rw [hl', mExtS_app pre _ k z0 a0, ← hmx, ← hzn]; rfl
    have y0 : x.body.length ≤ 1099511627776 := w0 x (by rw [hl']; simp)
    obtain ⟨g1, hg1⟩ : ∃ y_, y_ = row fI (mI x.body z1) := ⟨_, rfl⟩
    rw [F.lt_t hi la (by rw [mExtS_len, hl']; simp)]; cbv
    obtain ⟨ix, hix⟩ : ∃ y_, y_ = pre.length * 2 := ⟨_, rfl⟩
    have p0 : at' 2 ea i = some (ix, [.int .i64 z0, .row () g1]) := by simp only [hix, hg1]; have h := F.get (f := fExt) (k := 2) (show At i (mExtS pre k).length by rw [mExtS_len]; exact hi) hea hm (fun _ => rfl) (by decide); rw [mExtS_len] at h; exact h
    rw [p0]; cbv
    rw [F.ne_f rfl]; cbv
    rw [s1]
    rw [p0]; cbv
    have c1 : o 125 [R g1 (.sp 0 0), I z1] = some ⟨[I z2], [], none⟩ := by rw [ho, hg1, hz2]; exact ok125 _ _ m2 y0 rfl
    rw [c1]; cbv
    rw [show lt z2 0 = false by rw [F.lt]; simp; omega]; cbv
    refine ih (suf, pre ++ [x], z2, add .i64 i 1) ⟨at_len (F.inc hi (by omega)) (by simp), a2.eq (by simp [cExtS, cExt] <;> omega), by simp [hl']⟩ (by simp)

/- laws.heldAnswer -/
theorem ok156 (x : Answer) (k : Int) (hk : Lim k (nAnswer x)) (w : x.Mid) {f0 : Fl} (q0 : inFl f0 = true) : fix Tb md 156 [sAnswer x.version (row fExt (wAnswer x k).exts) f0, I k] = some ⟨[I (k + (nAnswer x : Int))], [], none⟩ := by
  have hn : nAnswer x = cExtS x.exts := rfl
  unfold Answer.Mid at w
  have a0 : AtK k k 0 := AtK.zero
  obtain ⟨z1, hz1⟩ : ∃ y_, y_ = k + (cExtS x.exts : Int) := ⟨_, rfl⟩
  have a1 : AtK z1 k (0 + cExtS x.exts) := hz1 ▸ a0.plus
  have m1 : Lim k (cExtS x.exts) := a0.lim hk (by omega)
  have n1 : 0 ≤ z1 := by have := m1.nn; omega
  rw [show k + (nAnswer x : Int) = z1 by rw [a1.same, hn]; simp]
  have x0 : (wAnswer x k).exts = mExtS x.exts k := by simp only [wAnswer, hz1]
  rw [x0]
  refine fix_fn (fn := ir156) tb_156 rfl rfl (by decide) rfl ?_; simp only [shutArgs, shutS, List.map_cons, List.map_nil, ir156, shut_in q0, List.head?_nil, reduceCtorEq, if_false, sExt, sHello, sAnswer, sEdit, sDeal, sBox, sDialed, sKnown]
  generalize hr : (⟨_, [], none⟩ : Ret) = r
  obtain ⟨g0, hg0⟩ : ∃ y_, y_ = row fExt (mExtS x.exts k) := ⟨_, rfl⟩
  rw [← hg0]
  intro add sub mul arith eq ne lt le gt ge neg conv mn mx not beq len at' ln bd cut app allS isNil mks set o hP F ho
  have c1 : o 236 [R g0 (.sp 0 0), I k] = some ⟨[I z1], [], none⟩ := by rw [ho, hz1, hg0]; exact ok236 _ _ m1 (Nat.le_trans w.1 (by decide)) (fun y hy => Nat.le_trans ((w.2 y hy)) (by decide)) rfl
  cbv
  rw [c1]; cbv
  rw [show lt z1 0 = false by rw [F.lt]; simp; omega]; cbv
  exact congrArg some hr

/- laws.FnExactEditAnswer -/
theorem law29 (a : Answer) (wa : a.Fits) (e : Edit) (we : e.Fits) :
    fix Tb md 29 [sAnswer a.version (row fExt a.exts) (.sp 0 1), sEdit e.kind e.n ] = some ⟨[B true], [], none⟩ := by
  refine fix_fn (fn := ir29) tb_29 rfl rfl (by decide) rfl ?_; simp only [shutArgs, shutS, List.map_cons, List.map_nil, ir29, List.head?_nil, reduceCtorEq, if_false, sExt, sHello, sAnswer, sEdit, sDeal, sBox, sDialed, sKnown, shut_in (f := .sp 0 1) rfl]
  generalize hr : (⟨_, [], none⟩ : Ret) = r
  obtain ⟨e1, he1⟩ : ∃ y_, y_ = row fExt a.exts := ⟨_, rfl⟩
  rw [← he1]
  obtain ⟨v1, hv1⟩ : ∃ y_, y_ = szAnswer a 1048576 := ⟨_, rfl⟩
  have u1 : v1 ≤ 1048576 := by rw [hv1]; exact (szAnswer_Sz a).up (by decide)
  have s1 := fun q : 0 ≤ v1 => (szAnswer_Sz a).ok 1048576 (by decide) (hv1 ▸ q)
  obtain ⟨w, hw⟩ : ∃ y_, y_ = editA a e := ⟨_, rfl⟩
  intro add sub mul arith eq ne lt le gt ge neg conv mn mx not beq len at' ln bd cut app allS isNil mks set o hP F ho
  have b1 : o 126 [sAnswer a.version e1 (.sp 0 1), I 1048576] = some ⟨[I v1], [], none⟩ := by rw [ho, hv1, he1]; exact ok126 a _ wa (by decide) (by decide) rfl 
  cbv
  rw [b1]; cbv
  refine both (fun d1 => ?_) (fun d1 => ?_) <;> rw [d1] <;> cbv
  · exact congrArg some hr
  have p1 : 0 ≤ v1 := by simp only [F.lt, decide_eq_false_iff_not] at d1; omega
  have ta := s1 p1
  have tam := ta.mid
  have ra := ta
  unfold Answer.Small at ra
  have ka : o 128 [sAnswer a.version e1 (.sp 0 1)] = some ⟨[sAnswer a.version e1 (.ow false)], [], none⟩ := by rw [ho, he1]; exact ok128 a tam rfl 
  have qa : o 129 [sAnswer a.version e1 (.sp 0 1), sAnswer a.version e1 (.sp 1 1)] = some ⟨[B true], [], none⟩ := by rw [ho, he1]; exact ok129 a tam rfl  rfl 
  have ke : o 155 [sEdit e.kind e.n ] = some ⟨[sEdit e.kind e.n ], [], none⟩ := by rw [ho]; exact ok155 e (show Edit.Mid e from trivial) 
  have wm : w.Mid := by rw [hw]; exact editA_mid tam
  obtain ⟨g0, hg0⟩ : ∃ y_, y_ = row fExt w.exts := ⟨_, rfl⟩
  obtain ⟨h0, hh0⟩ : ∃ y_, y_ = row fExt ((wAnswer w 1).exts) := ⟨_, rfl⟩
  obtain ⟨zz, hzz⟩ : ∃ y_, y_ = 1 + (nAnswer w : Int) := ⟨_, rfl⟩
  have lr : Lim 1 (nAnswer w) := Lim.of1 (by have := nAnswer_mid wm; omega)
  have l2 : lt zz 0 = false := by rw [F.lt, hzz]; simp; omega
  have l3 : ne zz zz = false := F.ne_f rfl
  have a0 : AtK 1 1 0 := AtK.zero
  have y0 := nAnswer_small ta
  have lk : Lim 1 (0 + nAnswer a) := Lim.of1 (by omega)
  obtain ⟨z1, hz1⟩ : ∃ y_, y_ = 1 + (nAnswer a : Int) := ⟨_, rfl⟩
  have a1 : AtK z1 1 (0 + nAnswer a) := hz1 ▸ a0.plus
  have v1m : Lim 1 (nAnswer a) := a0.lim lk (by omega)
  obtain ⟨x0_0, hx0_0⟩ : ∃ y_, y_ = row fExt ((wAnswer a 1).exts) := ⟨_, rfl⟩
  have n1 : o 1153 [sAnswer a.version e1 (.mp 0), I 1] = some ⟨[I z1], [.row () x0_0], none⟩ := by rw [ho, hz1, he1, hx0_0]; exact ok1153 a _ v1m tam
  have l1 : lt z1 0 = false := by rw [F.lt]; have := a1.same; simp; omega
  have hs : fix Tb md 154 [sAnswer a.version (row fExt a.exts) (.sp 0 1), sEdit e.kind e.n ] = some ⟨[sAnswer w.version (row fExt w.exts) (.ow false)], [], none⟩ := by rw [hw]; exact ok154 a e tam.1 (fun y hy => Nat.le_trans (show y.body.length ≤ 1073741824 from tam.2 y hy) (by decide)) rfl
  have hi : fix Tb md 119 [sAnswer a.version (row fExt a.exts) (.sp 0 1), sEdit e.kind e.n ] = some ⟨[sAnswer w.version (row fExt w.exts) (.ow false)], [], none⟩ := by rw [hw]; exact ok119 a e tam.1 (fun y hy => Nat.le_trans (show y.body.length ≤ 1073741824 from tam.2 y hy) (by decide)) rfl
  have m1 : o 154 [sAnswer a.version e1 (.sp 0 1), sEdit e.kind e.n ] = some ⟨[sAnswer w.version g0 (.ow false)], [], none⟩ := by rw [ho, he1]; simp only [hg0]; exact hs
  have m2 : o 119 [sAnswer a.version e1 (.sp 0 1), sEdit e.kind e.n ] = some ⟨[sAnswer w.version g0 (.ow false)], [], none⟩ := by rw [ho, he1]; simp only [hg0]; exact hi
  have r1 : o 129 [sAnswer w.version g0 (.sp 0 1), sAnswer w.version g0 (.sp 1 1)] = some ⟨[B true], [], none⟩ := by
    have h := ok129 w wm (f0 := (.sp 0 1)) (g0 := (.sp 1 1)) rfl rfl 
    rw [ho]
    try simp only [hg0]
    exact h
  have r2 : o 1153 [sAnswer w.version g0 (.mp 0), I 1] = some ⟨[I zz], [.row () h0], none⟩ := by
    have h := ok1153 w 1 lr wm
    rw [ho, hzz]
    try simp only [hg0, hh0]
    exact h
  have r3 : o 156 [sAnswer w.version h0 (.sp 0 1), I 1] = some ⟨[I zz], [], none⟩ := by
    have h := ok156 w 1 lr wm (f0 := (.sp 0 1)) rfl 
    rw [ho, hzz]
    try simp only [hh0]
    exact h
  repeat' (first | (rw [ka]; cbv) | (rw [qa]; cbv) | (rw [ke]; cbv) | (rw [m1]; cbv) | (rw [m2]; cbv) | (rw [r1]; cbv) | (rw [n1]; cbv) | (rw [r2]; cbv) | (rw [r3]; cbv) | (rw [l1]; cbv) | (rw [l2]; cbv) | (rw [l3]; cbv) | (rw [F.ne_f rfl]; cbv) | (rw [show not true = false by rw [F.not]; rfl]; cbv) | exact congrArg some hr)
theorem ans29 : Answers Tb md 29 [(true, [.int .i64, .row [.int .i64, .row [.int .i64]]]), (true, [.int .i64, .int .i64])] := answers_of (by
  intro vs h_
  obtain ⟨a, rfl, wa⟩ := fitL_Answer h_
  intro vs h_
  obtain ⟨e, rfl, we⟩ := fitL_Edit h_
  exact law29 a wa e we)

end Go.Vm
