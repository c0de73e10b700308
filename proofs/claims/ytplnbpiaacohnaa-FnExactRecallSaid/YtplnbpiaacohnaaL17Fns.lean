/- What the functions answer. -/
import Derived.Test.YtplnbpiaacohnaaL17Tab
set_option maxHeartbeats 4000000
set_option maxRecDepth 10000
set_option linter.unusedVariables false
set_option linter.unusedSimpArgs false
namespace Go.Vm

/- laws.eqIntS -/
theorem ok79 (a b : List Int) (hl : a.length ≤ 1099511627776) {f0 f1 : Fl} (h0 : inFl f0 = true) (h1 : inFl f1 = true) : fix Tb md 79 [R (row fI a) f0, R (row fI b) f1] = some ⟨[B (decide (a = b))], [], none⟩ := by
  refine fix_fn (fn := ir79) tb_79 rfl rfl (by decide) rfl ?_; simp only [shutArgs, shutS, List.map_cons, List.map_nil, ir79, shut_in h0, shut_in h1, List.head?_nil, reduceCtorEq, if_false, sExt, sHello, sAnswer, sEdit, sDeal, sBox, sDialed, sKnown]
  generalize hr : (⟨_, [], none⟩ : Ret) = r
  obtain ⟨ea, hea⟩ : ∃ y_, y_ = row fI a := ⟨_, rfl⟩
  obtain ⟨eb, heb⟩ : ∃ y_, y_ = row fI b := ⟨_, rfl⟩
  rw [← hea, ← heb]
  intro add sub mul arith eq ne lt le gt ge neg conv mn mx not beq len at' ln bd cut app allS isNil mks set o hP F ho
  have la := F.len_at hea
  have lb := F.len_at heb
  cbv
  by_cases hab : a.length = b.length
  · rw [F.ne_f (by unfold At at la lb; omega)]; cbv
    refine loop_ind hP (σ := List Int × List Int × List Int × Int) (fun s => [(0, R ea .sh), (1, R eb .sh), (4, B false), (5, I s.2.2.2)]) (fun s => At s.2.2.2 s.1.length ∧ a = s.1 ++ s.2.1 ∧ b = s.1 ++ s.2.2.1) (fun s => s.2.1.length) ([], a, b, 0) rfl ⟨rfl, rfl, rfl⟩ ?_
    rintro ⟨pre, sa, sb, i⟩ ⟨hi, ha, hb⟩ ih
    simp only at hi ha hb ih
    cbv
    have hlen : sa.length = sb.length := by simp [ha, hb] at hab; exact hab
    match sa, sb, hlen, ha, hb with
    | [], [], _, ha, hb =>
      rw [F.lt_f hi la (by simp [ha])]; cbv
      rw [← hr]; simp [ha, hb]
    | x :: sa, y :: sb, _, ha, hb =>
      rw [F.lt_t hi la (by simp [ha])]; cbv
      obtain ⟨ix, hix⟩ : ∃ y_, y_ = pre.length * 1 := ⟨_, rfl⟩
      rw [show at' 1 ea i = some (ix, [.int .i64 x]) by rw [hix]; exact F.get hi hea ha (fun _ => rfl) (by decide)]; cbv
      rw [show at' 1 eb i = some (ix, [.int .i64 y]) by rw [hix]; exact F.get hi heb hb (fun _ => rfl) (by decide)]; cbv
      by_cases hxy : x = y
      · rw [F.ne_f hxy]; cbv
        refine ih (pre ++ [x], sa, sb, add .i64 i 1) ⟨at_len (F.inc hi (by simp [ha] at hl; omega)) (by simp), by simp [ha], by simp [hb, hxy]⟩ (by simp)
      · rw [F.ne_t hxy]; cbv
        rw [← hr]; simp [ha, hb, hxy]
  · rw [F.ne_t (by unfold At at la lb; omega)]; cbv
    rw [← hr]
    simp
    intro e; exact hab (by rw [e])
theorem ok79t (a : List Int) (hl : a.length ≤ 1099511627776) {f0 f1 : Fl} (h0 : inFl f0 = true) (h1 : inFl f1 = true) : fix Tb md 79 [R (row fI a) f0, R (row fI a) f1] = some ⟨[B true], [], none⟩ := by simpa using ok79 a a hl h0 h1

/- laws.eqKnown -/
theorem ok242 (x : Known) (w : x.Mid) {f0 : Fl} (q0 : inFl f0 = true) {g0 : Fl} (p0 : inFl g0 = true) :
    fix Tb md 242 [sKnown x.cls (row fI x.lost) x.tick f0, sKnown x.cls (row fI x.lost) x.tick g0] = some ⟨[B true], [], none⟩ := by
  refine fix_fn (fn := ir242) tb_242 rfl rfl (by decide) rfl ?_; simp only [shutArgs, shutS, List.map_cons, List.map_nil, ir242, shut_in q0, shut_in p0, List.head?_nil, reduceCtorEq, if_false, sExt, sHello, sAnswer, sEdit, sDeal, sBox, sDialed, sKnown]
  generalize hr : (⟨_, [], none⟩ : Ret) = r
  obtain ⟨e1, he1⟩ : ∃ y_, y_ = row fI x.lost := ⟨_, rfl⟩
  rw [← he1]
  unfold Known.Mid at w
  intro add sub mul arith eq ne lt le gt ge neg conv mn mx not beq len at' ln bd cut app allS isNil mks set o hP F ho
  have c1 : o 79 [R e1 (.sp 0 0), R e1 (.sp 1 0)] = some ⟨[B true], [], none⟩ := by rw [ho, he1]; exact ok79t _ (by have := w; omega) rfl rfl
  cbv
  rw [F.ne_f rfl]; cbv
  rw [c1]; cbv
  rw [show not true = false by rw [F.not]; rfl]; cbv
  rw [F.ne_f rfl]; cbv
  exact congrArg some hr

/- laws.eqKnownS -/
theorem ok100 (l : List (Known)) (w : l.length ≤ 1073741824 ∧ ∀ y ∈ l, y.Mid) {f0 f1 : Fl} (q0 : inFl f0 = true) (q1 : inFl f1 = true) :
    fix Tb md 100 [R (row fKnown l) f0, R (row fKnown l) f1] = some ⟨[B true], [], none⟩ := by
  have w1 := w.1
  refine fix_fn (fn := ir100) tb_100 rfl rfl (by decide) rfl ?_; simp only [shutArgs, shutS, List.map_cons, List.map_nil, ir100, shut_in q0, shut_in q1, List.head?_nil, reduceCtorEq, if_false, sExt, sHello, sAnswer, sEdit, sDeal, sBox, sDialed, sKnown]
  generalize hr : (⟨_, [], none⟩ : Ret) = r
  obtain ⟨ea, hea⟩ : ∃ y_, y_ = row fKnown l := ⟨_, rfl⟩
  rw [← hea]
  intro add sub mul arith eq ne lt le gt ge neg conv mn mx not beq len at' ln bd cut app allS isNil mks set o hP F ho
  have la := F.len_at hea
  cbv
  rw [F.ne_f rfl]; cbv
  refine loop_ind hP (σ := List (Known) × List (Known) × Int) (fun s => [(0, R ea .sh), (1, R ea .sh), (4, B false), (5, I s.2.2)])
    (fun s => At s.2.2 s.2.1.length ∧ l = s.2.1 ++ s.1) (fun s => s.1.length) (l, [], 0) rfl ⟨rfl, rfl⟩ ?_
  rintro ⟨suf, pre, i⟩ ⟨hi, hl'⟩ ih
  simp only at hi hl' ih
  cbv
  cases suf with
  | nil =>
    rw [F.lt_f hi la (by simp [hl'])]; cbv
    exact congrArg some hr
  | cons x suf =>
    rw [F.lt_t hi la (by simp [hl'])]; cbv
    obtain ⟨e1, he1⟩ : ∃ y_, y_ = row fI x.lost := ⟨_, rfl⟩
    obtain ⟨ix, hix⟩ : ∃ y_, y_ = pre.length * 3 := ⟨_, rfl⟩
    have a1 : at' 3 ea i = some (ix, [.int .i64 x.cls, .row () e1, .int .i64 x.tick]) := by rw [hix, he1]; exact F.get hi hea hl' (fun _ => rfl) (by decide)
    rw [a1]; cbv
    try (rw [a1]; cbv)
    have c1 : o 242 [sKnown x.cls e1 x.tick (.sp 0 1), sKnown x.cls e1 x.tick (.sp 1 1)] = some ⟨[B true], [], none⟩ := by rw [ho, he1]; exact ok242 x (w.2 x (by rw [hl']; simp)) rfl rfl
    rw [c1]; cbv
    rw [show not true = false by rw [F.not]; rfl]; cbv
    refine ih (suf, pre ++ [x], add .i64 i 1) ⟨at_len (F.inc hi (by simp [hl'] at w1; omega)) (by simp), by simp [hl']⟩ (by simp)

/-- a number so many places behind k -/
def AtK (x k : Int) (n : Nat) : Prop := x = k + (n : Int)
def Lim (k : Int) (n : Nat) : Prop := 0 ≤ k ∧ k + (n : Int) ≤ 4611686018427387904
theorem AtK.zero {k : Int} : AtK k k 0 := by unfold AtK; simp
theorem AtK.one {x k : Int} {n : Nat} (h : AtK x k n) : AtK (x + 1) k (n + 1) := by unfold AtK at *; omega
theorem AtK.plus {x k : Int} {n m : Nat} (h : AtK x k n) : AtK (x + (m : Int)) k (n + m) := by unfold AtK at *; omega
theorem AtK.eq {x k : Int} {n m : Nat} (h : AtK x k n) (e : n = m) : AtK x k m := e ▸ h
theorem AtK.same {x k : Int} {n : Nat} (h : AtK x k n) : x = k + (n : Int) := h
theorem AtK.lim {x k : Int} {n m q : Nat} (h : AtK x k n) (l : Lim k q) (e : n + m ≤ q) : Lim x m := by unfold AtK Lim at *; omega
theorem Lim.nn {k : Int} {n : Nat} (l : Lim k n) : 0 ≤ k := l.1
theorem AtK.inc {x k : Int} {n q : Nat} (h : AtK x k n) (l : Lim k q) (e : n ≤ q) : IntKind.wrap .i64 (x + 1) = x + 1 := by unfold AtK Lim at *; exact wrap64 (by omega) (by omega)
theorem Lim.le {k : Int} {n m : Nat} (l : Lim k n) (e : m ≤ n) : Lim k m := by unfold Lim at *; omega
theorem sum_le {α : Type} {c : α → Nat} {B : Nat} : ∀ {l : List α}, (∀ y ∈ l, c y ≤ B) → (l.map c).sum ≤ l.length * B
  | [], _ => by simp
  | x :: l, h => by
    have h1 := h x (by simp)
    have h2 := sum_le (l := l) (fun y hy => h y (by simp [hy]))
    simp only [List.map_cons, List.sum_cons, List.length_cons, Nat.succ_mul]
    omega
theorem Lim.of1 {n : Nat} (h : n ≤ 4611686018427387903) : Lim 1 n := ⟨by decide, by omega⟩
/-- numbers written into a row from k on -/
def mI : List Int → Int → List Int
  | [], _ => []
  | _ :: l, k => k :: mI l (k + 1)
theorem mI_len : ∀ (l : List Int) (k : Int), (mI l k).length = l.length
  | [], _ => rfl
  | _ :: l, k => by simp [mI, mI_len l (k + 1)]
theorem mI_app : ∀ (a b : List Int) (k x : Int), AtK x k a.length → mI (a ++ b) k = mI a k ++ mI b x
  | [], b, k, x, h => by simp [AtK] at h; subst h; simp [mI]
  | y :: a, b, k, x, h => by
    simp only [List.cons_append, mI]
    rw [mI_app a b (k + 1) x (by unfold AtK at *; simp at h; omega)]
theorem set_fld {α : Type} {pre suf : List α} {f : α → List V} {k : Nat} {x y : α} {j : Nat} {v : V} {ix : Nat} (hk : ∀ a, (f a).length = k) (hj : j < k) (hy : f y = (f x).set j v) (hix : ix = pre.length * k) : setFlat (row f (pre ++ x :: suf)) (ix + j) [v] = some (row f (pre ++ y :: suf)) := by
  have := set_raw (k := k) [v] j (row f pre) (f x) (row f suf) (by intro a ha; obtain ⟨b, _, rfl⟩ := List.mem_map.1 ha; exact hk b) (hk x) (by simp; omega)
  rw [row_len] at this
  subst hix
  rw [show row f (pre ++ x :: suf) = row f pre ++ f x :: row f suf by simp [row], this]
  have e : (f x).take j ++ [v] ++ (f x).drop (j + [v].length) = f y := by
    rw [hy, List.set_eq_take_append_cons_drop, if_pos (by rw [hk]; exact hj)]; simp
  rw [e]
  simp [row]

/- laws.markIntS -/
theorem ok1080 (l : List Int) (k : Int) (hk : Lim k l.length) (hl : l.length ≤ 1099511627776) : fix Tb md 1080 [R (row fI l) (.mp 0), I k] = some ⟨[I (k + (l.length : Int))], [.row () (row fI (mI l k))], none⟩ := by
  obtain ⟨t, ht⟩ : ∃ y_, y_ = k + (l.length : Int) := ⟨_, rfl⟩
  obtain ⟨et, het⟩ : ∃ y_, y_ = row fI (mI l k) := ⟨_, rfl⟩
  have hT : AtK t k l.length := ht
  rw [← ht, ← het]
  clear ht
  refine fix_fn (fn := ir1080) tb_1080 rfl rfl (by decide) rfl ?_
  generalize hr : (⟨_, [_], none⟩ : Ret) = r
  obtain ⟨ea, hea⟩ : ∃ y_, y_ = row fI l := ⟨_, rfl⟩
  rw [← hea]
  intro add sub mul arith eq ne lt le gt ge neg conv mn mx not beq len at' ln bd cut app allS isNil mks set o hP F ho
  have la := F.len_at hea
  cbv
  refine loop_ind hP (σ := List Int × List Int × List (List V) × Int × Int) (fun s => [(0, R s.2.2.1 (.mp 0)), (1, I s.2.2.2.1), (4, I 0), (5, I s.2.2.2.2)])
    (fun s => At s.2.2.2.2 s.2.1.length ∧ AtK s.2.2.2.1 k s.2.1.length ∧ l = s.2.1 ++ s.1 ∧ s.2.2.1 = row fI (mI s.2.1 k ++ s.1)) (fun s => s.1.length) (l, [], ea, k, 0) rfl ⟨rfl, AtK.zero, rfl, by simpa [mI] using hea⟩ ?_
  rintro ⟨suf, pre, eo, x, i⟩ ⟨hi, hx, hl', heo⟩ ih
  simp only at hi hx hl' heo ih
  have lo := F.len_at heo
  cbv
  cases suf with
  | nil =>
    rw [F.lt_f hi lo (by simp [mI_len])]; cbv
    rw [← hr, show x = t by rw [hx.same, hT.same, hl']; simp, heo, het, hl']; simp
  | cons y suf =>
    have hl3 : pre.length + 1 ≤ l.length := by rw [hl']; simp
    have a1 : add .i64 x 1 = x + 1 := by rw [F.add, hx.inc hk (by omega)]
    rw [F.lt_t hi lo (by simp [mI_len])]; cbv
    obtain ⟨ix, hix⟩ : ∃ y_, y_ = pre.length * 1 := ⟨_, rfl⟩
    rw [show at' 1 eo i = some (ix, [.int .i64 y]) by rw [hix]; have h := F.get (f := fI) (k := 1) (show At i (mI pre k).length by rw [mI_len]; exact hi) heo rfl (fun _ => rfl) (by decide); rw [mI_len] at h; exact h]; cbv
    obtain ⟨eo', heo'⟩ : ∃ y_, y_ = row fI (mI pre k ++ x :: suf) := ⟨_, rfl⟩
    rw [show set eo ix [.int .i64 x] = some eo' by rw [F.set, heo, hix, heo', ← mI_len pre k]; exact set_one (fun _ => rfl) rfl]; cbv
    rw [a1]
    refine ih (suf, pre ++ [y], eo', x + 1, add .i64 i 1) ⟨at_len (F.inc hi (by omega)) (by simp), hx.one.eq (by simp), by simp [hl'], ?_⟩ (by simp)
    simp only
    rw [heo', mI_app pre [y] k x hx]; simp [mI]
theorem ok1080n (k : Int) : fix Tb md 1080 [R [] .nl, I k] = some ⟨[I k], [], none⟩ := by
  refine fix_fn (fn := ir1080) tb_1080 rfl rfl (by decide) rfl ?_
  generalize hr : (⟨_, [], none⟩ : Ret) = r
  intro add sub mul arith eq ne lt le gt ge neg conv mn mx not beq len at' ln bd cut app allS isNil mks set o hP F ho
  have la : At (len []) 0 := F.len_at (f := fI) (l := []) rfl
  have h0 : lt 0 (len []) = false := F.lt_f at0 la (Nat.le_refl 0)
  cbv
  refine loop_ind hP (σ := Unit) (fun _ => [(0, R [] .nl), (1, I k), (4, I 0), (5, I 0)]) (fun _ => True) (fun _ => 0) () rfl trivial ?_
  rintro ⟨⟩ _ ih
  clear ih
  cbv
  rw [h0]; cbv
  exact congrArg some hr

def mKnown (x : Known) (k : Int) : Known := ⟨k, mI x.lost (k + 1), ((k + 1) + (x.lost.length : Int))⟩
def cKnown (x : Known) : Nat := 1 + x.lost.length + 1
def mKnownS : List Known → Int → List Known
  | [], _ => []
  | x :: l, k => mKnown x k :: mKnownS l (k + (cKnown x : Int))
def cKnownS (l : List Known) : Nat := (l.map cKnown).sum
theorem mKnownS_len : ∀ (l : List Known) (k : Int), (mKnownS l k).length = l.length
  | [], _ => rfl
  | _ :: l, k => by simp [mKnownS, mKnownS_len l _]
theorem mKnownS_app : ∀ (a b : List Known) (k x : Int), AtK x k (cKnownS a) → mKnownS (a ++ b) k = mKnownS a k ++ mKnownS b x
  | [], b, k, x, h => by simp [AtK, cKnownS] at h; subst h; simp [mKnownS]
  | y :: a, b, k, x, h => by
    simp only [List.cons_append, mKnownS]
    rw [mKnownS_app a b (k + (cKnown y : Int)) x (by unfold AtK at *; simp [cKnownS] at h ⊢; omega)]
theorem cKnown_mid {x : Known} (w : x.Mid) : cKnown x ≤ 2147483650 := by unfold Known.Mid at w; unfold cKnown; omega
theorem cKnown_small {x : Known} (w : x.Small) : cKnown x ≤ 2097154 := by unfold Known.Small at w; unfold cKnown; omega
theorem cKnownS_mid {l : List Known} (w : l.length ≤ 1073741824 ∧ ∀ y ∈ l, y.Mid) : cKnownS l ≤ 2305843011361177600 :=
  Nat.le_trans (sum_le fun y hy => cKnown_mid (w.2 y hy)) (Nat.mul_le_mul_right _ w.1)
theorem cKnownS_small {l : List Known} (w : l.length ≤ 1048576 ∧ ∀ y ∈ l, y.Small) : cKnownS l ≤ 2199025352704 :=
  Nat.le_trans (sum_le fun y hy => cKnown_small (w.2 y hy)) (Nat.mul_le_mul_right _ w.1)

/- laws.markKnownS -/
set_option maxHeartbeats 2000000 in
theorem ok1124 (l : List Known) (k : Int) (hk : Lim k (cKnownS l)) (hl : l.length ≤ 1099511627776) (w0 : ∀ y ∈ l, y.lost.length ≤ 1099511627776) : fix Tb md 1124 [R (row fKnown l) (.mp 0), I k] = some ⟨[I (k + (cKnownS l : Int))], [.row () (row fKnown (mKnownS l k))], none⟩ := by
  obtain ⟨t, ht⟩ : ∃ y_, y_ = k + (cKnownS l : Int) := ⟨_, rfl⟩
  obtain ⟨et, het⟩ : ∃ y_, y_ = row fKnown (mKnownS l k) := ⟨_, rfl⟩
  have hT : AtK t k (cKnownS l) := ht
  rw [← ht, ← het]
  clear ht
  refine fix_fn (fn := ir1124) tb_1124 rfl rfl (by decide) rfl ?_
  generalize hr : (⟨_, [_], none⟩ : Ret) = r
  obtain ⟨ea, hea⟩ : ∃ y_, y_ = row fKnown l := ⟨_, rfl⟩
  rw [← hea]
  intro add sub mul arith eq ne lt le gt ge neg conv mn mx not beq len at' ln bd cut app allS isNil mks set o hP F ho
  cbv
  refine loop_ind hP (σ := List Known × List Known × List (List V) × Int × Int) (fun s => [(0, R s.2.2.1 (.mp 0)), (1, I s.2.2.2.1), (4, I 0), (5, I s.2.2.2.2)])
    (fun s => At s.2.2.2.2 s.2.1.length ∧ AtK s.2.2.2.1 k (cKnownS s.2.1) ∧ l = s.2.1 ++ s.1 ∧ s.2.2.1 = row fKnown (mKnownS s.2.1 k ++ s.1)) (fun s => s.1.length) (l, [], ea, k, 0) rfl ⟨rfl, AtK.zero, rfl, by simpa [mKnownS] using hea⟩ ?_
  rintro ⟨suf, pre, eo, z0, i⟩ ⟨hi, a0, hl', heo⟩ ih
  simp only at hi a0 hl' heo ih
  have lo := F.len_at heo
  cbv
  cases suf with
  | nil =>
    rw [F.lt_f hi lo (by simp [mKnownS_len])]; cbv
    rw [← hr, show z0 = t by rw [a0.same, hT.same, hl']; simp, heo, het, hl']; simp
  | cons x suf =>
    have hl3 : pre.length + 1 ≤ l.length := by rw [hl']; simp
    have hc : cKnownS l = cKnownS pre + (cKnown x + cKnownS suf) := by rw [hl']; simp [cKnownS]
    have hcx : cKnown x = 1 + x.lost.length + 1 := rfl
    obtain ⟨z1, hz1⟩ : ∃ y_, y_ = z0 + 1 := ⟨_, rfl⟩
    have a1 : AtK z1 k (cKnownS pre + 1) := hz1 ▸ a0.one
    have s1 : add .i64 z0 1 = z1 := by rw [F.add, a0.inc hk (by omega), hz1]
    obtain ⟨z2, hz2⟩ : ∃ y_, y_ = z1 + (x.lost.length : Int) := ⟨_, rfl⟩
    have a2 : AtK z2 k (cKnownS pre + 1 + x.lost.length) := hz2 ▸ a1.plus
    have m2 : Lim z1 x.lost.length := a1.lim hk (by omega)
    have n2 : 0 ≤ z2 := by have := m2.nn; omega
    obtain ⟨z3, hz3⟩ : ∃ y_, y_ = z2 + 1 := ⟨_, rfl⟩
    have a3 : AtK z3 k (cKnownS pre + 1 + x.lost.length + 1) := hz3 ▸ a2.one
    have s3 : add .i64 z2 1 = z3 := by rw [F.add, a2.inc hk (by omega), hz3]
    have hmx : mKnown x z0 = (⟨z0, (mI x.lost z1), z2⟩ : Known) := by simp only [mKnown, hz1, hz2, hz3]
    have hzn : z0 + (cKnown x : Int) = z3 := by rw [hcx, a3.same, a0.same]; omega
    have y0 : x.lost.length ≤ 1099511627776 := w0 x (by rw [hl']; simp)
    obtain ⟨e1, he1⟩ : ∃ y_, y_ = row fI x.lost := ⟨_, rfl⟩
    obtain ⟨g1, hg1⟩ : ∃ y_, y_ = row fI (mI x.lost z1) := ⟨_, rfl⟩
    rw [F.lt_t hi lo (by simp [mKnownS_len])]; cbv
    obtain ⟨ix, hix⟩ : ∃ y_, y_ = pre.length * 3 := ⟨_, rfl⟩
    obtain ⟨eo1, heo1⟩ : ∃ y_, y_ = row fKnown (mKnownS pre k ++ (⟨z0, x.lost, x.tick⟩ : Known) :: suf) := ⟨_, rfl⟩
    obtain ⟨eo2, heo2⟩ : ∃ y_, y_ = row fKnown (mKnownS pre k ++ (⟨z0, (mI x.lost z1), x.tick⟩ : Known) :: suf) := ⟨_, rfl⟩
    obtain ⟨eo3, heo3⟩ : ∃ y_, y_ = row fKnown (mKnownS pre k ++ (⟨z0, (mI x.lost z1), z2⟩ : Known) :: suf) := ⟨_, rfl⟩
    rw [show at' 3 eo i = some (ix, [.int .i64 x.cls, .row () e1, .int .i64 x.tick]) by simp only [hix, he1, hg1]; have h := F.get (f := fKnown) (k := 3) (show At i (mKnownS pre k).length by rw [mKnownS_len]; exact hi) heo rfl (fun _ => rfl) (by decide); rw [mKnownS_len] at h; exact h]; cbv
    have q0 : setFlat eo (ix + 0) [.int .i64 z0] = some eo1 := by simp only [heo, heo1, he1, hg1]; exact set_fld (k := 3) (fun _ => rfl) (by decide) (by simp [fKnown]) (by rw [hix, mKnownS_len])
    first | rw [show set eo (ix + 0) [.int .i64 z0] = some eo1 by rw [F.set]; exact q0] | rw [show set eo (Nat.add ix 0) [.int .i64 z0] = some eo1 by rw [F.set]; exact q0] | rw [show set eo ix [.int .i64 z0] = some eo1 by rw [F.set]; exact q0] | trace_state
    cbv
    rw [s1]
    rw [show at' 3 eo1 i = some (ix, [.int .i64 z0, .row () e1, .int .i64 x.tick]) by simp only [hix, he1, hg1]; have h := F.get (f := fKnown) (k := 3) (show At i (mKnownS pre k).length by rw [mKnownS_len]; exact hi) heo1 rfl (fun _ => rfl) (by decide); rw [mKnownS_len] at h; exact h]; cbv
    have c1 : o 1080 [R e1 (.mp 0), I z1] = some ⟨[I z2], [.row () g1], none⟩ := by rw [ho, he1, hg1, hz2]; exact ok1080 _ _ m2 y0
    rw [c1]; cbv
    have q1 : setFlat eo1 (ix + 1) [.row () g1] = some eo2 := by simp only [heo1, heo2, he1, hg1]; exact set_fld (k := 3) (fun _ => rfl) (by decide) (by simp [fKnown]) (by rw [hix, mKnownS_len])
    first | rw [show set eo1 (ix + 1) [.row () g1] = some eo2 by rw [F.set]; exact q1] | rw [show set eo1 (Nat.add ix 1) [.row () g1] = some eo2 by rw [F.set]; exact q1] | rw [show set eo1 ix [.row () g1] = some eo2 by rw [F.set]; exact q1] | trace_state
    cbv
    rw [show at' 3 eo2 i = some (ix, [.int .i64 z0, .row () g1, .int .i64 x.tick]) by simp only [hix, he1, hg1]; have h := F.get (f := fKnown) (k := 3) (show At i (mKnownS pre k).length by rw [mKnownS_len]; exact hi) heo2 rfl (fun _ => rfl) (by decide); rw [mKnownS_len] at h; exact h]; cbv
    have q2 : setFlat eo2 (ix + 2) [.int .i64 z2] = some eo3 := by simp only [heo2, heo3, he1, hg1]; exact set_fld (k := 3) (fun _ => rfl) (by decide) (by simp [fKnown]) (by rw [hix, mKnownS_len])
    first | rw [show set eo2 (ix + 2) [.int .i64 z2] = some eo3 by rw [F.set]; exact q2] | rw [show set eo2 (Nat.add ix 2) [.int .i64 z2] = some eo3 by rw [F.set]; exact q2] | rw [show set eo2 ix [.int .i64 z2] = some eo3 by rw [F.set]; exact q2] | trace_state
    cbv
    rw [s3]
    refine ih (suf, pre ++ [x], eo3, z3, add .i64 i 1) ⟨at_len (F.inc hi (by omega)) (by simp), a3.eq (by simp [cKnownS, cKnown] <;> omega), by simp [hl'], ?_⟩ (by simp)
    simp only
    rw [heo3, mKnownS_app pre [x] k z0 a0, ← hmx]; simp [mKnownS]
theorem ok1124n (k : Int) : fix Tb md 1124 [R [] .nl, I k] = some ⟨[I k], [], none⟩ := by
  refine fix_fn (fn := ir1124) tb_1124 rfl rfl (by decide) rfl ?_
  generalize hr : (⟨_, [], none⟩ : Ret) = r
  intro add sub mul arith eq ne lt le gt ge neg conv mn mx not beq len at' ln bd cut app allS isNil mks set o hP F ho
  have la : At (len []) 0 := F.len_at (f := fKnown) (l := []) rfl
  have h0 : lt 0 (len []) = false := F.lt_f at0 la (Nat.le_refl 0)
  cbv
  refine loop_ind hP (σ := Unit) (fun _ => [(0, R [] .nl), (1, I k), (4, I 0), (5, I 0)]) (fun _ => True) (fun _ => 0) () rfl trivial ?_
  rintro ⟨⟩ _ ih
  clear ih
  cbv
  rw [h0]; cbv
  exact congrArg some hr

/- spec.l1In -/
theorem ok230 (n lo hi : Int) : fix Tb md 230 [I n, I lo, I hi] = some ⟨[B (inR n lo hi)], [], none⟩ := by
  refine fix_fn (fn := ir230) tb_230 rfl rfl (by decide) rfl ?_; simp only [shutArgs, shutS, List.map_cons, List.map_nil, ir230, List.head?_nil, reduceCtorEq, if_false, sExt, sHello, sAnswer, sEdit, sDeal, sBox, sDialed, sKnown]
  generalize hr : (⟨_, [], none⟩ : Ret) = r
  intro add sub mul arith eq ne lt le gt ge neg conv mn mx not beq len at' ln bd cut app allS isNil mks set o hP F ho
  cbv
  repeat' (refine both (fun c => ?_) (fun c => ?_) <;> (try rw [c]) <;> (try cbv))
  all_goals (simp only [F.le, F.ge, F.lt, F.gt] at *; subst hr; (try simp_all [inR]) <;> (try omega))

/- spec.l23Fresh -/
def freshB (now : Int) (y : Known) : Bool := inR now 0 100000 && inR y.tick (now - 20) now
theorem ok270 (y : Known) (now : Int) {f0 : Fl} (h0 : inFl f0 = true) : fix Tb md 270 [sKnown y.cls (row fI y.lost) y.tick f0, I now] = some ⟨[B (freshB now y)], [], none⟩ := by
  obtain ⟨a, ha⟩ : ∃ y_, y_ = inR now 0 100000 := ⟨_, rfl⟩
  obtain ⟨b, hb⟩ : ∃ y_, y_ = inR y.tick (now - 20) now := ⟨_, rfl⟩
  rw [show freshB now y = (a && b) by rw [ha, hb]; rfl]
  generalize hr : (⟨_, [], none⟩ : Ret) = r
  obtain ⟨ea, hea⟩ : ∃ y_, y_ = row fI y.lost := ⟨_, rfl⟩
  rw [← hea]
  refine fix_fn2 (fn := ir270) tb_270 rfl rfl (by decide) rfl ?_; intro Q hQ; simp only [shutArgs, shutS, List.map_cons, List.map_nil, ir270, shut_in h0, List.head?_nil, reduceCtorEq, if_false, sExt, sHello, sAnswer, sEdit, sDeal, sBox, sDialed, sKnown]
  intro add sub mul arith eq ne lt le gt ge neg conv mn mx not beq len at' ln bd cut app allS isNil mks set o hP F ho
  have c1 : o 230 [I now, I 0, I 100000] = some ⟨[B a], [], none⟩ := by rw [ho, ha]; exact ok230 ..
  cbv
  rw [c1]; cbv
  refine both (fun d1 => ?_) (fun d1 => ?_) <;> rw [d1] <;> cbv
  · have hs : sub .i64 now 20 = now - 20 := by rw [ha] at d1; simp [inR] at d1; rw [F.sub, wrap64 (by omega) (by omega)]
    rw [hs]
    rw [show o 230 [I y.tick, I (now - 20), I now] = some ⟨[B b], [], none⟩ by rw [ho, hb]; exact ok230 ..]; cbv
    rw [hQ]; cbv
    rw [← hr, d1]; rfl
  · rw [hQ]; cbv
    rw [← hr, d1]; rfl

/- spec.l23Copy -/
theorem ok274 (y : Known) (hy : y.lost.length ≤ 1099511627776) {f0 : Fl} (h0 : inFl f0 = true) : fix Tb md 274 [sKnown y.cls (row fI y.lost) y.tick f0] = some ⟨[sKnown y.cls (row fI y.lost) y.tick (.ow false)], [], none⟩ := by
  generalize hr : (⟨_, [], none⟩ : Ret) = r
  obtain ⟨ea, hea⟩ : ∃ y_, y_ = row fI y.lost := ⟨_, rfl⟩
  rw [← hea] at hr ⊢
  refine fix_fn2 (fn := ir274) tb_274 rfl rfl (by decide) rfl ?_; intro Q hQ; simp only [shutArgs, shutS, List.map_cons, List.map_nil, ir274, shut_in h0, List.head?_nil, reduceCtorEq, if_false, sExt, sHello, sAnswer, sEdit, sDeal, sBox, sDialed, sKnown]
  intro add sub mul arith eq ne lt le gt ge neg conv mn mx not beq len at' ln bd cut app allS isNil mks set o hP F ho
  cbv
  rw [show allS ea = true from F.scal hea (fun _ => rfl)]; cbv
  rw [F.app_nil hea (fun _ => rfl) hy]; cbv
  rw [hQ]; cbv
  exact congrArg some hr

/- spec.ForgetOld -/
def frg (l : List Known) (now : Int) : List Known := l.filter (freshB now)
theorem ok132 (l : List Known) (now : Int) (hl : l.length ≤ 1048576) (w : ∀ y ∈ l, y.lost.length ≤ 1099511627776) {f0 : Fl} (h0 : inFl f0 = true) : fix Tb md 132 [R (row fKnown l) f0, I now] = some ⟨[R (row fKnown (frg l now)) (.ow false)], [], none⟩ := by
  obtain ⟨et, het⟩ : ∃ y_, y_ = row fKnown (frg l now) := ⟨_, rfl⟩
  rw [← het]
  generalize hr : (⟨_, [], none⟩ : Ret) = r
  obtain ⟨ea, hea⟩ : ∃ y_, y_ = row fKnown l := ⟨_, rfl⟩
  rw [← hea]
  refine fix_fn2 (fn := ir132) tb_132 rfl rfl (by decide) rfl ?_; intro Q hQ; simp only [shutArgs, shutS, List.map_cons, List.map_nil, ir132, shut_in h0, List.head?_nil, reduceCtorEq, if_false, sExt, sHello, sAnswer, sEdit, sDeal, sBox, sDialed, sKnown]
  intro add sub mul arith eq ne lt le gt ge neg conv mn mx not beq len at' ln bd cut app allS isNil mks set o hP F ho
  have la := F.len_at hea
  cbv
  refine loop_ind2 hP (σ := List Known × List Known × List (List V) × Int) (fun s => [(0, R ea .sh), (1, I now), (4, R [] .nl), (5, R s.2.2.1 (.ow false)), (6, I s.2.2.2)]) (fun s => At s.2.2.2 s.2.1.length ∧ l = s.2.1 ++ s.1 ∧ s.2.2.1 = row fKnown (s.2.1.filter (freshB now))) (fun s => s.1.length) (l, [], [], 0) rfl ⟨rfl, rfl, rfl⟩ ?_
  intro c1 Q1 hc1 hQ1
  rintro ⟨suf, pre, eo, i⟩ ⟨hi, hl', hb⟩ ih
  simp only at hi hl' hb ih
  have hpre : pre.length ≤ 1048576 := by rw [hl'] at hl; simp at hl; omega
  cbv
  cases suf with
  | nil =>
    rw [F.lt_f hi la (by simp [hl'])]; cbv
    rw [hQ1]; cbv
    rw [hQ]; cbv
    rw [← hr, het, hb, frg, hl', List.append_nil]
  | cons x suf =>
    obtain ⟨ix, hix⟩ : ∃ y_, y_ = pre.length * 3 := ⟨_, rfl⟩
    obtain ⟨e1, he1⟩ : ∃ y_, y_ = row fI x.lost := ⟨_, rfl⟩
    have hx := w x (by rw [hl']; simp)
    have p0 : at' 3 ea i = some (ix, [.int .i64 x.cls, .row () e1, .int .i64 x.tick]) := by rw [hix, he1]; exact F.get hi hea hl' (fun _ => rfl) (by decide)
    obtain ⟨v, hv⟩ : ∃ y_, y_ = freshB now x := ⟨_, rfl⟩
    have c2 : o 270 [sKnown x.cls e1 x.tick (.sp 0 1), I now] = some ⟨[B v], [], none⟩ := by rw [ho, hv, he1]; exact ok270 _ _ rfl
    have c3 : o 274 [sKnown x.cls e1 x.tick (.sp 0 1)] = some ⟨[sKnown x.cls e1 x.tick (.ow false)], [], none⟩ := by rw [ho, he1]; exact ok274 _ hx rfl
    rw [F.lt_t hi la (by simp [hl'])]; cbv
    rw [p0]; cbv
    rw [c2]; cbv
    refine both (fun d => ?_) (fun d => ?_) <;> rw [d] <;> cbv
    · rw [p0]; cbv
      rw [c3]; cbv
      obtain ⟨eo', heo'⟩ : ∃ y_, y_ = row fKnown (pre.filter (freshB now) ++ [x]) := ⟨_, rfl⟩
      have hf : (pre.filter (freshB now)).length ≤ pre.length := List.length_filter_le _ _
      rw [show allS [[.int .i64 x.cls, .row () e1, .int .i64 x.tick]] = false by rw [F.allS]; rfl]; cbv
      rw [show app 3 eo [[.int .i64 x.cls, .row () e1, .int .i64 x.tick]] = some eo' by rw [heo', he1]; exact F.push hb (fun _ => rfl) rfl (by omega)]; cbv
      refine ih (suf, pre ++ [x], eo', add .i64 i 1) ⟨at_len (F.inc hi (by omega)) (by simp), by simp [hl'], ?_⟩ (by simp)
      simp only
      rw [heo', List.filter_append, List.filter_cons, ← hv, d]; rfl
    · refine ih (suf, pre ++ [x], eo, add .i64 i 1) ⟨at_len (F.inc hi (by omega)) (by simp), by simp [hl'], ?_⟩ (by simp)
      simp only
      rw [hb, List.filter_append, List.filter_cons, ← hv, d]; simp

/- spec.Recall -/
def rcP (c now : Int) (y : Known) : Bool := decide (y.cls = c) && freshB now y
def rcV (l : List Known) (c now : Int) : List Int := match l.find? (rcP c now) with | some y => y.lost | none => []
theorem rcV_app {a b : List Known} {c now : Int} (h : a.any (rcP c now) = false) : rcV (a ++ b) c now = rcV b c now := by
  unfold rcV
  rw [List.find?_append, List.find?_eq_none.2 (by simpa using h)]; rfl
theorem ok122 (l : List Known) (c now : Int) (hl : l.length ≤ 1048576) (w : ∀ y ∈ l, y.lost.length ≤ 1099511627776) {f0 : Fl} (h0 : inFl f0 = true) : fix Tb md 122 [R (row fKnown l) f0, I c, I now] = some ⟨[R (row fI (rcV l c now)) (.ow false)], [], none⟩ := by
  obtain ⟨et, het⟩ : ∃ y_, y_ = row fI (rcV l c now) := ⟨_, rfl⟩
  rw [← het]
  generalize hr : (⟨_, [], none⟩ : Ret) = r
  obtain ⟨ea, hea⟩ : ∃ y_, y_ = row fKnown l := ⟨_, rfl⟩
  rw [← hea]
  refine fix_fn2 (fn := ir122) tb_122 rfl rfl (by decide) rfl ?_; intro Q hQ; simp only [shutArgs, shutS, List.map_cons, List.map_nil, ir122, shut_in h0, List.head?_nil, reduceCtorEq, if_false, sExt, sHello, sAnswer, sEdit, sDeal, sBox, sDialed, sKnown]
  intro add sub mul arith eq ne lt le gt ge neg conv mn mx not beq len at' ln bd cut app allS isNil mks set o hP F ho
  have la := F.len_at hea
  cbv
  refine loop_ind2 hP (σ := List Known × List Known × Int) (fun s => [(0, R ea .sh), (1, I c), (2, I now), (6, R [] .nl), (7, I s.2.2)]) (fun s => At s.2.2 s.2.1.length ∧ l = s.2.1 ++ s.1 ∧ s.2.1.any (rcP c now) = false) (fun s => s.1.length) (l, [], 0) rfl ⟨rfl, rfl, rfl⟩ ?_
  intro c1 Q1 hc1 hQ1
  rintro ⟨suf, pre, i⟩ ⟨hi, hl', hb⟩ ih
  simp only at hi hl' hb ih
  have hpre : pre.length ≤ 1048576 := by rw [hl'] at hl; simp at hl; omega
  have hv0 : rcV l c now = rcV suf c now := by rw [hl', rcV_app hb]
  cbv
  cases suf with
  | nil =>
    rw [F.lt_f hi la (by simp [hl'])]; cbv
    rw [hQ1]; cbv
    rw [hQ]; cbv
    rw [← hr, het, hv0]; rfl
  | cons x suf =>
    obtain ⟨ix, hix⟩ : ∃ y_, y_ = pre.length * 3 := ⟨_, rfl⟩
    obtain ⟨e1, he1⟩ : ∃ y_, y_ = row fI x.lost := ⟨_, rfl⟩
    have hx := w x (by rw [hl']; simp)
    have p0 : at' 3 ea i = some (ix, [.int .i64 x.cls, .row () e1, .int .i64 x.tick]) := by rw [hix, he1]; exact F.get hi hea hl' (fun _ => rfl) (by decide)
    obtain ⟨u, hu⟩ : ∃ y_, y_ = decide (x.cls = c) := ⟨_, rfl⟩
    obtain ⟨v, hv⟩ : ∃ y_, y_ = freshB now x := ⟨_, rfl⟩
    have c2 : o 270 [sKnown x.cls e1 x.tick (.sp 0 1), I now] = some ⟨[B v], [], none⟩ := by rw [ho, hv, he1]; exact ok270 _ _ rfl
    have g1 : eq x.cls c = u := by rw [F.eq, hu]
    have hp : rcP c now x = (u && v) := by rw [hu, hv]; rfl
    have hno : (u && v) = false → (pre ++ [x]).any (rcP c now) = false := by intro q; rw [List.any_append, hb, List.any_cons, hp, q]; rfl
    rw [F.lt_t hi la (by simp [hl'])]; cbv
    rw [p0]; cbv
    rw [g1]; cbv
    refine both (fun d => ?_) (fun d => ?_) <;> rw [d] <;> cbv
    · rw [p0]; cbv
      rw [c2]; cbv
      refine both (fun d2 => ?_) (fun d2 => ?_) <;> rw [d2] <;> cbv
      · rw [p0]; cbv
        rw [show allS e1 = true from F.scal he1 (fun _ => rfl)]; cbv
        rw [F.app_nil he1 (fun _ => rfl) hx]; cbv
        rw [hQ1]; cbv
        rw [hQ]; cbv
        rw [← hr, het, hv0, he1]; unfold rcV; rw [List.find?_cons, hp, d, d2]; rfl
      · refine ih (suf, pre ++ [x], add .i64 i 1) ⟨at_len (F.inc hi (by omega)) (by simp), by simp [hl'], hno (by rw [d2]; simp)⟩ (by simp)
    · refine ih (suf, pre ++ [x], add .i64 i 1) ⟨at_len (F.inc hi (by omega)) (by simp), by simp [hl'], hno (by rw [d]; simp)⟩ (by simp)
theorem rcV_len {l : List Known} {c now : Int} (w : l.length ≤ 1048576 ∧ ∀ y ∈ l, y.Small) : (rcV l c now).length ≤ 1073741824 := by
  unfold rcV
  split
  · rename_i y h
    have := w.2 y (List.mem_of_find?_eq_some h)
    unfold Known.Small at this
    omega
  · simp

/- impl.InRange -/
theorem ok232 (x lo hi : Int) : fix Tb md 232 [I x, I lo, I hi] = some ⟨[B (inR x lo hi)], [], none⟩ := by
  refine fix_fn (fn := ir232) tb_232 rfl rfl (by decide) rfl ?_; simp only [shutArgs, shutS, List.map_cons, List.map_nil, ir232, List.head?_nil, reduceCtorEq, if_false, sExt, sHello, sAnswer, sEdit, sDeal, sBox, sDialed, sKnown]
  generalize hr : (⟨_, [], none⟩ : Ret) = r
  intro add sub mul arith eq ne lt le gt ge neg conv mn mx not beq len at' ln bd cut app allS isNil mks set o hP F ho
  cbv
  repeat' (first | (refine both (fun c => ?_) (fun c => ?_) <;> (try rw [c]) <;> (try cbv)))
  all_goals (clear hP  ho; try simp only [F.eq, F.ne, F.le, F.lt, F.ge, F.gt, F.not, F.beq] at *; clear F; subst hr)
  all_goals (simp_all [inR] <;> (intros; omega))

/- impl.keptKnown -/
theorem ok275_0 (g : Nat) (hg : md g = []) (p : Known → Bool) (l : List Known) (hl : l.length ≤ 1048576) (w : ∀ y ∈ l, y.lost.length ≤ 1099511627776) (hp : ∀ x ∈ l, fix Tb md g [sKnown x.cls (row fI x.lost) x.tick (.sp 0 1)] = some ⟨[B (p x)], [], none⟩) {f0 : Fl} (h0 : inFl f0 = true) :
    fix Tb md 275 [R (row fKnown l) f0, ⟨.val, [⟨.fn g [], .sh⟩]⟩] = some ⟨[R (row fKnown (l.filter p)) (.ow false)], [], none⟩ := by
  generalize hm : md = m at hg hp ⊢
  obtain ⟨et, het⟩ : ∃ y_, y_ = row fKnown (l.filter p) := ⟨_, rfl⟩
  rw [← het]
  generalize hr : (⟨_, [], none⟩ : Ret) = r
  obtain ⟨ea, hea⟩ : ∃ y_, y_ = row fKnown l := ⟨_, rfl⟩
  rw [← hea]
  refine fix_fn2 (fn := ir275) tb_275 rfl rfl (by decide) rfl ?_; intro Q hQ; simp only [shutArgs, shutS, List.map_cons, List.map_nil, ir275, shut_in h0, List.head?_nil, reduceCtorEq, if_false, sExt, sHello, sAnswer, sEdit, sDeal, sBox, sDialed, sKnown]
  intro add sub mul arith eq ne lt le gt ge neg conv mn mx not beq len at' ln bd cut app allS isNil mks set o hP F ho
  have la := F.len_at hea
  cbv
  refine loop_ind2 hP (σ := List Known × List Known × List (List V) × Int × Option (Int × List (List V) × Int)) (fun s => match s.2.2.2.2 with
     | none => [(0, R ea .sh), (1, ⟨.val, [⟨.fn g [], .sh⟩]⟩), (4, R [] .nl), (5, R s.2.2.1 (.ow false)), (9, R ea .sh), (10, I (len ea)), (11, I s.2.2.2.1)]
     | some j => [(0, R ea .sh), (1, ⟨.val, [⟨.fn g [], .sh⟩]⟩), (4, R [] .nl), (5, R s.2.2.1 (.ow false)), (7, ⟨.ptr 39 0, []⟩), (9, R ea .sh), (10, I (len ea)), (11, I s.2.2.2.1), (39, ⟨.box (), [⟨.int .i64 j.1, .sc⟩, ⟨.row () j.2.1, .sh⟩, ⟨.int .i64 j.2.2, .sc⟩]⟩)]) (fun s => At s.2.2.2.1 s.2.1.length ∧ l = s.2.1 ++ s.1 ∧ s.2.2.1 = row fKnown (s.2.1.filter p)) (fun s => s.1.length) (l, [], [], 0, none) rfl ⟨rfl, rfl, rfl⟩ ?_
  intro c1 Q1 hc1 hQ1
  rintro ⟨suf, pre, eo, i, j⟩ ⟨hi, hl', hb⟩ ih
  simp only at hi hl' hb ih
  have hpre : pre.length ≤ 1048576 := by rw [hl'] at hl; simp at hl; omega
  cases j with
  | none =>
    cbv
    cases suf with
    | nil =>
      rw [F.lt_f hi la (by simp [hl'])]; cbv
      rw [hQ1]; cbv
      rw [hQ]; cbv
      rw [← hr, het, hb, hl', List.append_nil]
    | cons x suf =>
      obtain ⟨ix, hix⟩ : ∃ y_, y_ = pre.length * 3 := ⟨_, rfl⟩
      obtain ⟨e1, he1⟩ : ∃ y_, y_ = row fI x.lost := ⟨_, rfl⟩
      have hx := w x (by rw [hl']; simp)
      have p0 : at' 3 ea i = some (ix, [.int .i64 x.cls, .row () e1, .int .i64 x.tick]) := by rw [hix, he1]; exact F.get hi hea hl' (fun _ => rfl) (by decide)
      obtain ⟨v, hv⟩ : ∃ y_, y_ = p x := ⟨_, rfl⟩
      have c2 : o g [sKnown x.cls e1 x.tick (.sp 0 1)] = some ⟨[B v], [], none⟩ := by rw [ho, hv, he1]; exact hp x (by rw [hl']; simp)
      rw [F.lt_t hi la (by simp [hl'])]; cbv
      rw [p0]; cbv
      rw [hg]; cbv
      rw [c2]; cbv
      refine both (fun d => ?_) (fun d => ?_) <;> rw [d] <;> cbv
      · rw [show allS e1 = true from F.scal he1 (fun _ => rfl)]; cbv
        rw [F.app_nil he1 (fun _ => rfl) hx]; cbv
        rw [show allS [[.int .i64 x.cls, .row () e1, .int .i64 x.tick]] = false by rw [F.allS]; rfl]; cbv
        obtain ⟨eo', heo'⟩ : ∃ y_, y_ = row fKnown (pre.filter p ++ [x]) := ⟨_, rfl⟩
        have hf : (pre.filter p).length ≤ pre.length := List.length_filter_le _ _
        rw [show app 3 eo [[.int .i64 x.cls, .row () e1, .int .i64 x.tick]] = some eo' by rw [heo', he1]; exact F.push hb (fun _ => rfl) rfl (by omega)]; cbv
        refine ih (suf, pre ++ [x], eo', add .i64 i 1, some (x.cls, e1, x.tick)) ⟨at_len (F.inc hi (by omega)) (by simp), by simp [hl'], ?_⟩ (by simp)
        simp only
        rw [heo', List.filter_append, List.filter_cons, ← hv, d]; rfl
      · refine ih (suf, pre ++ [x], eo, add .i64 i 1, some (x.cls, e1, x.tick)) ⟨at_len (F.inc hi (by omega)) (by simp), by simp [hl'], ?_⟩ (by simp)
        simp only
        rw [hb, List.filter_append, List.filter_cons, ← hv, d]; simp
  | some jj =>
    obtain ⟨j1, j2, j3⟩ := jj
    cbv
    cases suf with
    | nil =>
      rw [F.lt_f hi la (by simp [hl'])]; cbv
      rw [hQ1]; cbv
      rw [hQ]; cbv
      rw [← hr, het, hb, hl', List.append_nil]
    | cons x suf =>
      obtain ⟨ix, hix⟩ : ∃ y_, y_ = pre.length * 3 := ⟨_, rfl⟩
      obtain ⟨e1, he1⟩ : ∃ y_, y_ = row fI x.lost := ⟨_, rfl⟩
      have hx := w x (by rw [hl']; simp)
      have p0 : at' 3 ea i = some (ix, [.int .i64 x.cls, .row () e1, .int .i64 x.tick]) := by rw [hix, he1]; exact F.get hi hea hl' (fun _ => rfl) (by decide)
      obtain ⟨v, hv⟩ : ∃ y_, y_ = p x := ⟨_, rfl⟩
      have c2 : o g [sKnown x.cls e1 x.tick (.sp 0 1)] = some ⟨[B v], [], none⟩ := by rw [ho, hv, he1]; exact hp x (by rw [hl']; simp)
      rw [F.lt_t hi la (by simp [hl'])]; cbv
      rw [p0]; cbv
      rw [hg]; cbv
      rw [c2]; cbv
      refine both (fun d => ?_) (fun d => ?_) <;> rw [d] <;> cbv
      · rw [show allS e1 = true from F.scal he1 (fun _ => rfl)]; cbv
        rw [F.app_nil he1 (fun _ => rfl) hx]; cbv
        rw [show allS [[.int .i64 x.cls, .row () e1, .int .i64 x.tick]] = false by rw [F.allS]; rfl]; cbv
        obtain ⟨eo', heo'⟩ : ∃ y_, y_ = row fKnown (pre.filter p ++ [x]) := ⟨_, rfl⟩
        have hf : (pre.filter p).length ≤ pre.length := List.length_filter_le _ _
        rw [show app 3 eo [[.int .i64 x.cls, .row () e1, .int .i64 x.tick]] = some eo' by rw [heo', he1]; exact F.push hb (fun _ => rfl) rfl (by omega)]; cbv
        refine ih (suf, pre ++ [x], eo', add .i64 i 1, some (x.cls, e1, x.tick)) ⟨at_len (F.inc hi (by omega)) (by simp), by simp [hl'], ?_⟩ (by simp)
        simp only
        rw [heo', List.filter_append, List.filter_cons, ← hv, d]; rfl
      · refine ih (suf, pre ++ [x], eo, add .i64 i 1, some (x.cls, e1, x.tick)) ⟨at_len (F.inc hi (by omega)) (by simp), by simp [hl'], ?_⟩ (by simp)
        simp only
        rw [hb, List.filter_append, List.filter_cons, ← hv, d]; simp
theorem ok275_1 (g : Nat) (hg : md g = []) (k0 : V) (p : Known → Bool) (l : List Known) (hl : l.length ≤ 1048576) (w : ∀ y ∈ l, y.lost.length ≤ 1099511627776) (hp : ∀ x ∈ l, fix Tb md g [sKnown x.cls (row fI x.lost) x.tick (.sp 0 1), ⟨.val, [⟨k0, .sh⟩]⟩] = some ⟨[B (p x)], [], none⟩) {f0 : Fl} (h0 : inFl f0 = true) :
    fix Tb md 275 [R (row fKnown l) f0, ⟨.val, [⟨.fn g [k0], .sh⟩]⟩] = some ⟨[R (row fKnown (l.filter p)) (.ow false)], [], none⟩ := by
  generalize hm : md = m at hg hp ⊢
  obtain ⟨et, het⟩ : ∃ y_, y_ = row fKnown (l.filter p) := ⟨_, rfl⟩
  rw [← het]
  generalize hr : (⟨_, [], none⟩ : Ret) = r
  obtain ⟨ea, hea⟩ : ∃ y_, y_ = row fKnown l := ⟨_, rfl⟩
  rw [← hea]
  refine fix_fn2 (fn := ir275) tb_275 rfl rfl (by decide) rfl ?_; intro Q hQ; simp only [shutArgs, shutS, List.map_cons, List.map_nil, ir275, shut_in h0, List.head?_nil, reduceCtorEq, if_false, sExt, sHello, sAnswer, sEdit, sDeal, sBox, sDialed, sKnown]
  intro add sub mul arith eq ne lt le gt ge neg conv mn mx not beq len at' ln bd cut app allS isNil mks set o hP F ho
  have la := F.len_at hea
  cbv
  refine loop_ind2 hP (σ := List Known × List Known × List (List V) × Int × Option (Int × List (List V) × Int)) (fun s => match s.2.2.2.2 with
     | none => [(0, R ea .sh), (1, ⟨.val, [⟨.fn g [k0], .sh⟩]⟩), (4, R [] .nl), (5, R s.2.2.1 (.ow false)), (9, R ea .sh), (10, I (len ea)), (11, I s.2.2.2.1)]
     | some j => [(0, R ea .sh), (1, ⟨.val, [⟨.fn g [k0], .sh⟩]⟩), (4, R [] .nl), (5, R s.2.2.1 (.ow false)), (7, ⟨.ptr 39 0, []⟩), (9, R ea .sh), (10, I (len ea)), (11, I s.2.2.2.1), (39, ⟨.box (), [⟨.int .i64 j.1, .sc⟩, ⟨.row () j.2.1, .sh⟩, ⟨.int .i64 j.2.2, .sc⟩]⟩)]) (fun s => At s.2.2.2.1 s.2.1.length ∧ l = s.2.1 ++ s.1 ∧ s.2.2.1 = row fKnown (s.2.1.filter p)) (fun s => s.1.length) (l, [], [], 0, none) rfl ⟨rfl, rfl, rfl⟩ ?_
  intro c1 Q1 hc1 hQ1
  rintro ⟨suf, pre, eo, i, j⟩ ⟨hi, hl', hb⟩ ih
  simp only at hi hl' hb ih
  have hpre : pre.length ≤ 1048576 := by rw [hl'] at hl; simp at hl; omega
  cases j with
  | none =>
    cbv
    cases suf with
    | nil =>
      rw [F.lt_f hi la (by simp [hl'])]; cbv
      rw [hQ1]; cbv
      rw [hQ]; cbv
      rw [← hr, het, hb, hl', List.append_nil]
    | cons x suf =>
      obtain ⟨ix, hix⟩ : ∃ y_, y_ = pre.length * 3 := ⟨_, rfl⟩
      obtain ⟨e1, he1⟩ : ∃ y_, y_ = row fI x.lost := ⟨_, rfl⟩
      have hx := w x (by rw [hl']; simp)
      have p0 : at' 3 ea i = some (ix, [.int .i64 x.cls, .row () e1, .int .i64 x.tick]) := by rw [hix, he1]; exact F.get hi hea hl' (fun _ => rfl) (by decide)
      obtain ⟨v, hv⟩ : ∃ y_, y_ = p x := ⟨_, rfl⟩
      have c2 : o g [sKnown x.cls e1 x.tick (.sp 0 1), ⟨.val, [⟨k0, .sh⟩]⟩] = some ⟨[B v], [], none⟩ := by rw [ho, hv, he1]; exact hp x (by rw [hl']; simp)
      rw [F.lt_t hi la (by simp [hl'])]; cbv
      rw [p0]; cbv
      rw [hg]; cbv
      rw [c2]; cbv
      refine both (fun d => ?_) (fun d => ?_) <;> rw [d] <;> cbv
      · rw [show allS e1 = true from F.scal he1 (fun _ => rfl)]; cbv
        rw [F.app_nil he1 (fun _ => rfl) hx]; cbv
        rw [show allS [[.int .i64 x.cls, .row () e1, .int .i64 x.tick]] = false by rw [F.allS]; rfl]; cbv
        obtain ⟨eo', heo'⟩ : ∃ y_, y_ = row fKnown (pre.filter p ++ [x]) := ⟨_, rfl⟩
        have hf : (pre.filter p).length ≤ pre.length := List.length_filter_le _ _
        rw [show app 3 eo [[.int .i64 x.cls, .row () e1, .int .i64 x.tick]] = some eo' by rw [heo', he1]; exact F.push hb (fun _ => rfl) rfl (by omega)]; cbv
        refine ih (suf, pre ++ [x], eo', add .i64 i 1, some (x.cls, e1, x.tick)) ⟨at_len (F.inc hi (by omega)) (by simp), by simp [hl'], ?_⟩ (by simp)
        simp only
        rw [heo', List.filter_append, List.filter_cons, ← hv, d]; rfl
      · refine ih (suf, pre ++ [x], eo, add .i64 i 1, some (x.cls, e1, x.tick)) ⟨at_len (F.inc hi (by omega)) (by simp), by simp [hl'], ?_⟩ (by simp)
        simp only
        rw [hb, List.filter_append, List.filter_cons, ← hv, d]; simp
  | some jj =>
    obtain ⟨j1, j2, j3⟩ := jj
    cbv
    cases suf with
    | nil =>
      rw [F.lt_f hi la (by simp [hl'])]; cbv
      rw [hQ1]; cbv
      rw [hQ]; cbv
      rw [← hr, het, hb, hl', List.append_nil]
    | cons x suf =>
      obtain ⟨ix, hix⟩ : ∃ y_, y_ = pre.length * 3 := ⟨_, rfl⟩
      obtain ⟨e1, he1⟩ : ∃ y_, y_ = row fI x.lost := ⟨_, rfl⟩
      have hx := w x (by rw [hl']; simp)
      have p0 : at' 3 ea i = some (ix, [.int .i64 x.cls, .row () e1, .int .i64 x.tick]) := by rw [hix, he1]; exact F.get hi hea hl' (fun _ => rfl) (by decide)
      obtain ⟨v, hv⟩ : ∃ y_, y_ = p x := ⟨_, rfl⟩
      have c2 : o g [sKnown x.cls e1 x.tick (.sp 0 1), ⟨.val, [⟨k0, .sh⟩]⟩] = some ⟨[B v], [], none⟩ := by rw [ho, hv, he1]; exact hp x (by rw [hl']; simp)
      rw [F.lt_t hi la (by simp [hl'])]; cbv
      rw [p0]; cbv
      rw [hg]; cbv
      rw [c2]; cbv
      refine both (fun d => ?_) (fun d => ?_) <;> rw [d] <;> cbv
      · rw [show allS e1 = true from F.scal he1 (fun _ => rfl)]; cbv
        rw [F.app_nil he1 (fun _ => rfl) hx]; cbv
        rw [show allS [[.int .i64 x.cls, .row () e1, .int .i64 x.tick]] = false by rw [F.allS]; rfl]; cbv
        obtain ⟨eo', heo'⟩ : ∃ y_, y_ = row fKnown (pre.filter p ++ [x]) := ⟨_, rfl⟩
        have hf : (pre.filter p).length ≤ pre.length := List.length_filter_le _ _
        rw [show app 3 eo [[.int .i64 x.cls, .row () e1, .int .i64 x.tick]] = some eo' by rw [heo', he1]; exact F.push hb (fun _ => rfl) rfl (by omega)]; cbv
        refine ih (suf, pre ++ [x], eo', add .i64 i 1, some (x.cls, e1, x.tick)) ⟨at_len (F.inc hi (by omega)) (by simp), by simp [hl'], ?_⟩ (by simp)
        simp only
        rw [heo', List.filter_append, List.filter_cons, ← hv, d]; rfl
      · refine ih (suf, pre ++ [x], eo, add .i64 i 1, some (x.cls, e1, x.tick)) ⟨at_len (F.inc hi (by omega)) (by simp), by simp [hl'], ?_⟩ (by simp)
        simp only
        rw [hb, List.filter_append, List.filter_cons, ← hv, d]; simp

/- impl.ForgetOld$1 -/
theorem ok276 (y : Known) (now : Int) (hn : inR now 0 100000 = true) {f0 : Fl} (h0 : inFl f0 = true) : fix Tb md 276 [sKnown y.cls (row fI y.lost) y.tick f0, ⟨.val, [⟨.ptr () [.int .i64 now], .sh⟩]⟩] = some ⟨[B (freshB now y)], [], none⟩ := by
  obtain ⟨b, hb⟩ : ∃ y_, y_ = inR y.tick (now - 20) now := ⟨_, rfl⟩
  rw [show freshB now y = b by unfold freshB; rw [hn, hb]; rfl]
  generalize hr : (⟨_, [], none⟩ : Ret) = r
  obtain ⟨ea, hea⟩ : ∃ y_, y_ = row fI y.lost := ⟨_, rfl⟩
  rw [← hea]
  refine fix_fn2 (fn := ir276) tb_276 rfl rfl (by decide) rfl ?_; intro Q hQ; simp only [shutArgs, shutS, List.map_cons, List.map_nil, ir276, shut_in h0, List.head?_nil, reduceCtorEq, if_false, sExt, sHello, sAnswer, sEdit, sDeal, sBox, sDialed, sKnown]
  intro add sub mul arith eq ne lt le gt ge neg conv mn mx not beq len at' ln bd cut app allS isNil mks set o hP F ho
  have hs : sub .i64 now 20 = now - 20 := by simp [inR] at hn; rw [F.sub, wrap64 (by omega) (by omega)]
  cbv
  rw [hs]
  rw [show o 232 [I y.tick, I (now - 20), I now] = some ⟨[B b], [], none⟩ by rw [ho, hb]; exact ok232 ..]; cbv
  rw [hQ]; cbv
  exact congrArg some hr

/- impl.ForgetOld -/
theorem ok133 (l : List Known) (now : Int) (hl : l.length ≤ 1048576) (w : ∀ y ∈ l, y.lost.length ≤ 1099511627776) {f0 : Fl} (h0 : inFl f0 = true) : (fix Tb md 133 [R (row fKnown l) f0, I now] = some ⟨[R (row fKnown (frg l now)) (.ow false)], [], none⟩) ∨ (frg l now = [] ∧ fix Tb md 133 [R (row fKnown l) f0, I now] = some ⟨[R [] .nl], [], none⟩) := by
  obtain ⟨a, ha⟩ : ∃ y_, y_ = inR now 0 100000 := ⟨_, rfl⟩
  cases hac : a with
  | false =>
    refine .inr ⟨by unfold frg; rw [List.filter_eq_nil_iff]; intro x _; simp [freshB, ← ha, hac], ?_⟩
    generalize hr : (⟨_, [], none⟩ : Ret) = r
    obtain ⟨ea, hea⟩ : ∃ y_, y_ = row fKnown l := ⟨_, rfl⟩
    rw [← hea]
    refine fix_fn2 (fn := ir133) tb_133 rfl rfl (by decide) rfl ?_; intro Q hQ; simp only [shutArgs, shutS, List.map_cons, List.map_nil, ir133, shut_in h0, List.head?_nil, reduceCtorEq, if_false, sExt, sHello, sAnswer, sEdit, sDeal, sBox, sDialed, sKnown]
    intro add sub mul arith eq ne lt le gt ge neg conv mn mx not beq len at' ln bd cut app allS isNil mks set o hP F ho
    have c1 : o 232 [I now, I 0, I 100000] = some ⟨[B a], [], none⟩ := by rw [ho, ha]; exact ok232 ..
    cbv
    rw [c1, hac]; cbv
    rw [show not false = true by rw [F.not]; rfl]; cbv
    rw [hQ]; cbv
    exact congrArg some hr
  | true =>
    refine .inl ?_
    rw [hac] at ha
    obtain ⟨et, het⟩ : ∃ y_, y_ = row fKnown (frg l now) := ⟨_, rfl⟩
    rw [← het]
    generalize hr : (⟨_, [], none⟩ : Ret) = r
    obtain ⟨ea, hea⟩ : ∃ y_, y_ = row fKnown l := ⟨_, rfl⟩
    rw [← hea]
    refine fix_fn2 (fn := ir133) tb_133 rfl rfl (by decide) rfl ?_; intro Q hQ; simp only [shutArgs, shutS, List.map_cons, List.map_nil, ir133, shut_in h0, List.head?_nil, reduceCtorEq, if_false, sExt, sHello, sAnswer, sEdit, sDeal, sBox, sDialed, sKnown]
    intro add sub mul arith eq ne lt le gt ge neg conv mn mx not beq len at' ln bd cut app allS isNil mks set o hP F ho
    have c1 : o 232 [I now, I 0, I 100000] = some ⟨[B true], [], none⟩ := by rw [ho, ha]; exact ok232 ..
    have c2 : o 275 [R ea (.sp 0 0), ⟨.val, [⟨.fn 276 [.ptr () [.int .i64 now]], .sh⟩]⟩] = some ⟨[R et (.ow false)], [], none⟩ := by
      rw [ho, het, hea]; exact ok275_1 276 rfl _ (freshB now) l hl w (fun x _ => ok276 x now ha.symm rfl) rfl
    cbv
    rw [c1]; cbv
    rw [show not true = false by rw [F.not]; rfl]; cbv
    rw [c2]; cbv
    rw [hQ]; cbv
    exact congrArg some hr

/- impl.Recall -/
def clsP (c : Int) (y : Known) : Bool := decide (y.cls = c)
def rcF (l : List Known) (c : Int) : List Int := match l.find? (clsP c) with | some y => y.lost | none => []
theorem rcF_app {a b : List Known} {c : Int} (h : a.any (clsP c) = false) : rcF (a ++ b) c = rcF b c := by
  unfold rcF
  rw [List.find?_append, List.find?_eq_none.2 (by simpa using h)]; rfl
theorem rcV_frg (l : List Known) (c now : Int) : rcV l c now = rcF (frg l now) c := by
  unfold rcV frg rcF
  rw [List.find?_filter]
  have : rcP c now = fun a => decide (freshB now a = true ∧ clsP c a = true) := by funext y; simp [rcP, clsP, Bool.and_comm]
  rw [this]
  try (generalize List.find? (fun a => decide (freshB now a = true ∧ clsP c a = true)) l = z; cases z <;> rfl)
theorem ok123 (l : List Known) (c now : Int) (hl : l.length ≤ 1048576) (w : ∀ y ∈ l, y.lost.length ≤ 1099511627776) {f0 : Fl} (h0 : inFl f0 = true) : fix Tb md 123 [R (row fKnown l) f0, I c, I now] = some ⟨[R (row fI (rcV l c now)) (.ow false)], [], none⟩ ∨ (rcV l c now = [] ∧ fix Tb md 123 [R (row fKnown l) f0, I c, I now] = some ⟨[R [] .nl], [], none⟩) := by
  rw [rcV_frg]
  have hi := ok133 l now hl w (f0 := .sp 0 0) rfl
  have hml : (frg l now).length ≤ 1048576 := Nat.le_trans (List.length_filter_le _ _) hl
  obtain ⟨m, hm⟩ : ∃ y_, y_ = frg l now := ⟨_, rfl⟩
  rw [← hm] at hi hml ⊢
  rcases hi with hi | ⟨n0, hi⟩
  · cases hany : m.any (clsP c) with
    | false =>
      refine .inr ⟨by rw [show m = m ++ [] by simp, rcF_app hany]; rfl, ?_⟩
      generalize hr : (⟨_, [], none⟩ : Ret) = r
      obtain ⟨ea, hea⟩ : ∃ y_, y_ = row fKnown l := ⟨_, rfl⟩
      rw [← hea]
      obtain ⟨ef, hef⟩ : ∃ y_, y_ = row fKnown m := ⟨_, rfl⟩
      refine fix_fn2 (fn := ir123) tb_123 rfl rfl (by decide) rfl ?_; intro Q hQ; simp only [shutArgs, shutS, List.map_cons, List.map_nil, ir123, shut_in h0, List.head?_nil, reduceCtorEq, if_false, sExt, sHello, sAnswer, sEdit, sDeal, sBox, sDialed, sKnown]
      intro add sub mul arith eq ne lt le gt ge neg conv mn mx not beq len at' ln bd cut app allS isNil mks set o hP F ho
      have la := F.len_at hef
      have c1 : o 133 [R ea (.sp 0 0), I now] = some ⟨[R ef (.ow false)], [], none⟩ := by rw [ho, hea, hef]; exact hi
      cbv
      rw [c1]; cbv
      refine loop_ind2 hP (σ := List Known × List Known × Int × Option (Int × List (List V) × Int)) (fun s => match s.2.2.2 with
        | none => [(0, R ea .sh), (1, I c), (2, I now), (6, R [] .nl), (11, R ef (.ow false)), (12, I (len ef)), (13, I s.2.2.1)]
        | some j => [(0, R ea .sh), (1, I c), (2, I now), (6, R [] .nl), (8, ⟨.ptr 32 0, []⟩), (11, R ef (.ow false)), (12, I (len ef)), (13, I s.2.2.1), (32, ⟨.box (), [⟨.int .i64 j.1, .sc⟩, ⟨.row () j.2.1, .fr⟩, ⟨.int .i64 j.2.2, .sc⟩]⟩)]) (fun s => At s.2.2.1 s.2.1.length ∧ m = s.2.1 ++ s.1 ∧ s.2.1.any (clsP c) = false) (fun s => s.1.length) (m, [], 0, none) rfl ⟨rfl, rfl, rfl⟩ ?_
      intro c1 Q1 hc1 hQ1
      rintro ⟨suf, pre, i, j⟩ ⟨hi, hl', hb⟩ ih
      simp only at hi hl' hb ih
      have hpre : pre.length ≤ 1048576 := by rw [hl'] at hml; simp at hml; omega
      have hv0 : rcF m c = rcF suf c := by rw [hl', rcF_app hb]
      cases j with
      | none =>
        cbv
        cases suf with
        | nil =>
          rw [F.lt_f hi la (by simp [hl'])]; cbv
          rw [hQ1]; cbv
          rw [hQ]; cbv
          exact congrArg some hr
        | cons x suf =>
          obtain ⟨ix, hix⟩ : ∃ y_, y_ = pre.length * 3 := ⟨_, rfl⟩
          obtain ⟨e1, he1⟩ : ∃ y_, y_ = row fI x.lost := ⟨_, rfl⟩
          have p0 : at' 3 ef i = some (ix, [.int .i64 x.cls, .row () e1, .int .i64 x.tick]) := by rw [hix, he1]; exact F.get hi hef hl' (fun _ => rfl) (by decide)
          obtain ⟨u, hu⟩ : ∃ y_, y_ = clsP c x := ⟨_, rfl⟩
          have g1 : eq x.cls c = u := by rw [F.eq, hu]; rfl
          have hno : u = false → (pre ++ [x]).any (clsP c) = false := by intro q; rw [List.any_append, hb, List.any_cons, ← hu, q]; rfl
          rw [F.lt_t hi la (by simp [hl'])]; cbv
          rw [p0]; cbv
          rw [g1]; cbv
          refine both (fun d => ?_) (fun d => ?_) <;> rw [d] <;> cbv
          · exfalso
            rw [hl', List.any_append, List.any_cons, ← hu, d] at hany
            simp at hany
          · refine ih (suf, pre ++ [x], add .i64 i 1, some (x.cls, e1, x.tick)) ⟨at_len (F.inc hi (by omega)) (by simp), by simp [hl'], hno d⟩ (by simp)
      | some jj =>
        obtain ⟨j1, j2, j3⟩ := jj
        cbv
        cases suf with
        | nil =>
          rw [F.lt_f hi la (by simp [hl'])]; cbv
          rw [hQ1]; cbv
          rw [hQ]; cbv
          exact congrArg some hr
        | cons x suf =>
          obtain ⟨ix, hix⟩ : ∃ y_, y_ = pre.length * 3 := ⟨_, rfl⟩
          obtain ⟨e1, he1⟩ : ∃ y_, y_ = row fI x.lost := ⟨_, rfl⟩
          have p0 : at' 3 ef i = some (ix, [.int .i64 x.cls, .row () e1, .int .i64 x.tick]) := by rw [hix, he1]; exact F.get hi hef hl' (fun _ => rfl) (by decide)
          obtain ⟨u, hu⟩ : ∃ y_, y_ = clsP c x := ⟨_, rfl⟩
          have g1 : eq x.cls c = u := by rw [F.eq, hu]; rfl
          have hno : u = false → (pre ++ [x]).any (clsP c) = false := by intro q; rw [List.any_append, hb, List.any_cons, ← hu, q]; rfl
          rw [F.lt_t hi la (by simp [hl'])]; cbv
          rw [p0]; cbv
          rw [g1]; cbv
          refine both (fun d => ?_) (fun d => ?_) <;> rw [d] <;> cbv
          · exfalso
            rw [hl', List.any_append, List.any_cons, ← hu, d] at hany
            simp at hany
          · refine ih (suf, pre ++ [x], add .i64 i 1, some (x.cls, e1, x.tick)) ⟨at_len (F.inc hi (by omega)) (by simp), by simp [hl'], hno d⟩ (by simp)
    | true =>
      refine .inl ?_
      obtain ⟨et, het⟩ : ∃ y_, y_ = row fI (rcF m c) := ⟨_, rfl⟩
      rw [← het]
      generalize hr : (⟨_, [], none⟩ : Ret) = r
      obtain ⟨ea, hea⟩ : ∃ y_, y_ = row fKnown l := ⟨_, rfl⟩
      rw [← hea]
      obtain ⟨ef, hef⟩ : ∃ y_, y_ = row fKnown m := ⟨_, rfl⟩
      refine fix_fn2 (fn := ir123) tb_123 rfl rfl (by decide) rfl ?_; intro Q hQ; simp only [shutArgs, shutS, List.map_cons, List.map_nil, ir123, shut_in h0, List.head?_nil, reduceCtorEq, if_false, sExt, sHello, sAnswer, sEdit, sDeal, sBox, sDialed, sKnown]
      intro add sub mul arith eq ne lt le gt ge neg conv mn mx not beq len at' ln bd cut app allS isNil mks set o hP F ho
      have la := F.len_at hef
      have c1 : o 133 [R ea (.sp 0 0), I now] = some ⟨[R ef (.ow false)], [], none⟩ := by rw [ho, hea, hef]; exact hi
      cbv
      rw [c1]; cbv
      refine loop_ind2 hP (σ := List Known × List Known × Int × Option (Int × List (List V) × Int)) (fun s => match s.2.2.2 with
        | none => [(0, R ea .sh), (1, I c), (2, I now), (6, R [] .nl), (11, R ef (.ow false)), (12, I (len ef)), (13, I s.2.2.1)]
        | some j => [(0, R ea .sh), (1, I c), (2, I now), (6, R [] .nl), (8, ⟨.ptr 32 0, []⟩), (11, R ef (.ow false)), (12, I (len ef)), (13, I s.2.2.1), (32, ⟨.box (), [⟨.int .i64 j.1, .sc⟩, ⟨.row () j.2.1, .fr⟩, ⟨.int .i64 j.2.2, .sc⟩]⟩)]) (fun s => At s.2.2.1 s.2.1.length ∧ m = s.2.1 ++ s.1 ∧ s.2.1.any (clsP c) = false) (fun s => s.1.length) (m, [], 0, none) rfl ⟨rfl, rfl, rfl⟩ ?_
      intro c1 Q1 hc1 hQ1
      rintro ⟨suf, pre, i, j⟩ ⟨hi, hl', hb⟩ ih
      simp only at hi hl' hb ih
      have hpre : pre.length ≤ 1048576 := by rw [hl'] at hml; simp at hml; omega
      have hv0 : rcF m c = rcF suf c := by rw [hl', rcF_app hb]
      cases j with
      | none =>
        cbv
        cases suf with
        | nil =>
          exfalso
          rw [hl', List.append_nil, hb] at hany
          exact Bool.noConfusion hany
        | cons x suf =>
          obtain ⟨ix, hix⟩ : ∃ y_, y_ = pre.length * 3 := ⟨_, rfl⟩
          obtain ⟨e1, he1⟩ : ∃ y_, y_ = row fI x.lost := ⟨_, rfl⟩
          have p0 : at' 3 ef i = some (ix, [.int .i64 x.cls, .row () e1, .int .i64 x.tick]) := by rw [hix, he1]; exact F.get hi hef hl' (fun _ => rfl) (by decide)
          obtain ⟨u, hu⟩ : ∃ y_, y_ = clsP c x := ⟨_, rfl⟩
          have g1 : eq x.cls c = u := by rw [F.eq, hu]; rfl
          have hno : u = false → (pre ++ [x]).any (clsP c) = false := by intro q; rw [List.any_append, hb, List.any_cons, ← hu, q]; rfl
          rw [F.lt_t hi la (by simp [hl'])]; cbv
          rw [p0]; cbv
          rw [g1]; cbv
          refine both (fun d => ?_) (fun d => ?_) <;> rw [d] <;> cbv
          · rw [hQ1]; cbv
            rw [hQ]; cbv
            rw [← hr, het, hv0, he1]; unfold rcF; rw [List.find?_cons, ← hu, d]
          · refine ih (suf, pre ++ [x], add .i64 i 1, some (x.cls, e1, x.tick)) ⟨at_len (F.inc hi (by omega)) (by simp), by simp [hl'], hno d⟩ (by simp)
      | some jj =>
        obtain ⟨j1, j2, j3⟩ := jj
        cbv
        cases suf with
        | nil =>
          exfalso
          rw [hl', List.append_nil, hb] at hany
          exact Bool.noConfusion hany
        | cons x suf =>
          obtain ⟨ix, hix⟩ : ∃ y_, y_ = pre.length * 3 := ⟨_, rfl⟩
          obtain ⟨e1, he1⟩ : ∃ y_, y_ = row fI x.lost := ⟨_, rfl⟩
          have p0 : at' 3 ef i = some (ix, [.int .i64 x.cls, .row () e1, .int .i64 x.tick]) := by rw [hix, he1]; exact F.get hi hef hl' (fun _ => rfl) (by decide)
          obtain ⟨u, hu⟩ : ∃ y_, y_ = clsP c x := ⟨_, rfl⟩
          have g1 : eq x.cls c = u := by rw [F.eq, hu]; rfl
          have hno : u = false → (pre ++ [x]).any (clsP c) = false := by intro q; rw [List.any_append, hb, List.any_cons, ← hu, q]; rfl
          rw [F.lt_t hi la (by simp [hl'])]; cbv
          rw [p0]; cbv
          rw [g1]; cbv
          refine both (fun d => ?_) (fun d => ?_) <;> rw [d] <;> cbv
          · rw [hQ1]; cbv
            rw [hQ]; cbv
            rw [← hr, het, hv0, he1]; unfold rcF; rw [List.find?_cons, ← hu, d]
          · refine ih (suf, pre ++ [x], add .i64 i 1, some (x.cls, e1, x.tick)) ⟨at_len (F.inc hi (by omega)) (by simp), by simp [hl'], hno d⟩ (by simp)
  · refine .inr ⟨by rw [n0]; rfl, ?_⟩
    generalize hr : (⟨_, [], none⟩ : Ret) = r
    obtain ⟨ea, hea⟩ : ∃ y_, y_ = row fKnown l := ⟨_, rfl⟩
    rw [← hea]
    refine fix_fn2 (fn := ir123) tb_123 rfl rfl (by decide) rfl ?_; intro Q hQ; simp only [shutArgs, shutS, List.map_cons, List.map_nil, ir123, shut_in h0, List.head?_nil, reduceCtorEq, if_false, sExt, sHello, sAnswer, sEdit, sDeal, sBox, sDialed, sKnown]
    intro add sub mul arith eq ne lt le gt ge neg conv mn mx not beq len at' ln bd cut app allS isNil mks set o hP F ho
    have c1 : o 133 [R ea (.sp 0 0), I now] = some ⟨[R [] .nl], [], none⟩ := by rw [ho, hea]; exact hi
    have la : At (len []) 0 := F.len_at (f := fI) (l := []) rfl
    have h0 : lt 0 (len []) = false := F.lt_f at0 la (Nat.le_refl 0)
    cbv
    rw [c1]; cbv
    refine loop_ind2 hP (σ := Unit) (fun _ => [(0, R ea .sh), (1, I c), (2, I now), (6, R [] .nl), (11, R [] .nl), (12, I (len [])), (13, I 0)]) (fun _ => True) (fun _ => 0) () rfl trivial ?_
    intro c1 Q1 hc1 hQ1
    rintro ⟨⟩ _ ih
    clear ih
    cbv
    rw [h0]; cbv
    rw [hQ1]; cbv
    rw [hQ]; cbv
    exact congrArg some hr

/- laws.heldIntS -/
theorem ok125 (l : List Int) (k : Int) (hk : Lim k l.length) (hl : l.length ≤ 1099511627776) {f0 : Fl} (h0 : inFl f0 = true) : fix Tb md 125 [R (row fI (mI l k)) f0, I k] = some ⟨[I (k + (l.length : Int))], [], none⟩ := by
  obtain ⟨t, ht⟩ : ∃ y_, y_ = k + (l.length : Int) := ⟨_, rfl⟩
  have hT : AtK t k l.length := ht
  rw [← ht]
  clear ht
  refine fix_fn (fn := ir125) tb_125 rfl rfl (by decide) rfl ?_; simp only [shutArgs, shutS, List.map_cons, List.map_nil, ir125, shut_in h0, List.head?_nil, reduceCtorEq, if_false, sExt, sHello, sAnswer, sEdit, sDeal, sBox, sDialed, sKnown]
  generalize hr : (⟨_, [], none⟩ : Ret) = r
  obtain ⟨ea, hea⟩ : ∃ y_, y_ = row fI (mI l k) := ⟨_, rfl⟩
  rw [← hea]
  intro add sub mul arith eq ne lt le gt ge neg conv mn mx not beq len at' ln bd cut app allS isNil mks set o hP F ho
  have la := F.len_at hea
  cbv
  refine loop_ind hP (σ := List Int × List Int × Int × Int) (fun s => [(0, R ea .sh), (1, I s.2.2.1), (4, I 0), (5, I s.2.2.2)])
    (fun s => At s.2.2.2 s.2.1.length ∧ AtK s.2.2.1 k s.2.1.length ∧ l = s.2.1 ++ s.1) (fun s => s.1.length) (l, [], k, 0) rfl ⟨rfl, AtK.zero, rfl⟩ ?_
  rintro ⟨suf, pre, x, i⟩ ⟨hi, hx, hl'⟩ ih
  simp only at hi hx hl' ih
  cbv
  cases suf with
  | nil =>
    rw [F.lt_f hi la (by rw [mI_len, hl']; simp)]; cbv
    rw [← hr, show x = t by rw [hx.same, hT.same, hl']; simp]
  | cons y suf =>
    have hl3 : pre.length + 1 ≤ l.length := by rw [hl']; simp
    have a1 : add .i64 x 1 = x + 1 := by rw [F.add, hx.inc hk (by omega)]
    have hm : mI l k = mI pre k ++ x :: mI suf (x + 1) := by rw [hl', mI_app pre _ k x hx]; rfl
    rw [F.lt_t hi la (by rw [mI_len, hl']; simp)]; cbv
    obtain ⟨ix, hix⟩ : ∃ y_, y_ = pre.length * 1 := ⟨_, rfl⟩
    rw [show at' 1 ea i = some (ix, [.int .i64 x]) by rw [hix]; have h := F.get (f := fI) (k := 1) (show At i (mI pre k).length by rw [mI_len]; exact hi) hea hm (fun _ => rfl) (by decide); rw [mI_len] at h; exact h]; cbv
    rw [F.ne_f rfl]; cbv
    rw [a1]
    refine ih (suf, pre ++ [y], x + 1, add .i64 i 1) ⟨at_len (F.inc hi (by omega)) (by simp), hx.one.eq (by simp), by simp [hl']⟩ (by simp)

/- laws.szIntS -/
theorem ok227 {α : Type} (f : α → List V) (l : List α) (left : Int) (h : l.length ≤ 9223372036854775807) (h1 : 0 ≤ left) (h2 : left ≤ 1048576) {f0 : Fl} (h0 : inFl f0 = true) : fix Tb md 227 [R (row f l) f0, I left] = some ⟨[I (sz1 l.length left)], [], none⟩ := by
  by_cases hl : left - l.length < 0
  · rw [show sz1 l.length left = -1 by unfold sz1; rw [if_pos hl]]
    refine fix_fn (fn := ir227) tb_227 rfl rfl (by decide) rfl ?_; simp only [shutArgs, shutS, List.map_cons, List.map_nil, ir227, shut_in h0, List.head?_nil, reduceCtorEq, if_false, sExt, sHello, sAnswer, sEdit, sDeal, sBox, sDialed, sKnown]
    generalize hr : (⟨_, [], none⟩ : Ret) = r
    obtain ⟨ea, hea⟩ : ∃ y_, y_ = row f l := ⟨_, rfl⟩
    rw [← hea]
    intro add sub mul arith eq ne lt le gt ge neg conv mn mx not beq len at' ln bd cut app allS isNil mks set o hP F ho
    have le := F.len_at hea
    unfold At at le
    have hs : lt (sub .i64 left (len ea)) 0 = true := by rw [F.lt, F.sub, le, wrap64 (by omega) (by omega)]; simp; omega
    cbv
    rw [hs]
    cbv
    exact congrArg some hr
  · rw [show sz1 l.length left = left - l.length by unfold sz1; rw [if_neg hl]]
    refine fix_fn (fn := ir227) tb_227 rfl rfl (by decide) rfl ?_; simp only [shutArgs, shutS, List.map_cons, List.map_nil, ir227, shut_in h0, List.head?_nil, reduceCtorEq, if_false, sExt, sHello, sAnswer, sEdit, sDeal, sBox, sDialed, sKnown]
    obtain ⟨v, hv⟩ : ∃ y_, y_ = left - l.length := ⟨_, rfl⟩
    rw [← hv]
    generalize hr : (⟨_, [], none⟩ : Ret) = r
    obtain ⟨ea, hea⟩ : ∃ y_, y_ = row f l := ⟨_, rfl⟩
    rw [← hea]
    intro add sub mul arith eq ne lt le gt ge neg conv mn mx not beq len at' ln bd cut app allS isNil mks set o hP F ho
    have le := F.len_at hea
    unfold At at le
    have e1 : sub .i64 left (len ea) = v := by rw [F.sub, le, wrap64 (by omega) (by omega), hv]
    have hs : lt v 0 = false := by rw [F.lt, hv]; simp; omega
    cbv
    rw [e1, hs]
    cbv
    exact congrArg some hr

/- laws.szKnown -/
theorem ok238 (x : Known) (left : Int) (w : x.Fits) (h1 : 0 ≤ left) (h2 : left ≤ 1048576) {f0 : Fl} (q0 : inFl f0 = true) :
    fix Tb md 238 [sKnown x.cls (row fI x.lost) x.tick f0, I left] = some ⟨[I (szKnown x left)], [], none⟩ := by
  refine fix_fn (fn := ir238) tb_238 rfl rfl (by decide) rfl ?_; simp only [shutArgs, shutS, List.map_cons, List.map_nil, ir238, shut_in q0, List.head?_nil, reduceCtorEq, if_false, sExt, sHello, sAnswer, sEdit, sDeal, sBox, sDialed, sKnown]
  obtain ⟨v1, hv1⟩ : ∃ y_, y_ = sz1 x.lost.length left := ⟨_, rfl⟩
  rw [show szKnown x left = v1 by rw [hv1]; rfl]
  generalize hr : (⟨_, [], none⟩ : Ret) = r
  obtain ⟨e1, he1⟩ : ∃ y_, y_ = row fI x.lost := ⟨_, rfl⟩
  rw [← he1]
  have g1 : v1 ≤ 1048576 := by rw [hv1]; exact (Sz.of1 x.lost.length).up h2
  have l1 : -1 ≤ v1 := by rw [hv1]; exact (Sz.of1 x.lost.length).lo _ h2
  unfold Known.Fits at w
  intro add sub mul arith eq ne lt le gt ge neg conv mn mx not beq len at' ln bd cut app allS isNil mks set o hP F ho
  have c1 : o 227 [R e1 (.sp 0 0), I left] = some ⟨[I v1], [], none⟩ := by rw [ho, hv1, he1]; exact ok227 fI _ _ w.2.1.1 h1 h2 rfl
  cbv
  rw [c1]; cbv
  refine both (fun d1 => ?_) (fun d1 => ?_) <;> rw [d1] <;> cbv
  · clear hP c1 ho; simp only [F.lt, decide_eq_true_eq] at d1; clear F; rw [← hr, show v1 = -1 by omega]
  exact congrArg some hr

/- laws.szKnownS -/
theorem ok96 (l : List Known) (left : Int) (w : l.length ≤ 9223372036854775807 ∧ ∀ y ∈ l, y.Fits) (h1 : 0 ≤ left) (h2 : left ≤ 1048576) {f0 : Fl} (q0 : inFl f0 = true) :
    fix Tb md 96 [R (row fKnown l) f0, I left] = some ⟨[I (szL szKnown l left)], [], none⟩ := by
  have w1 := w.1
  by_cases hl : left - l.length < 0
  · rw [show szL szKnown l left = -1 from szF_neg szKnown_Sz l _ (by unfold sz1; rw [if_pos hl])]
    refine fix_fn (fn := ir96) tb_96 rfl rfl (by decide) rfl ?_; simp only [shutArgs, shutS, List.map_cons, List.map_nil, ir96, shut_in q0, List.head?_nil, reduceCtorEq, if_false, sExt, sHello, sAnswer, sEdit, sDeal, sBox, sDialed, sKnown]
    generalize hr : (⟨_, [], none⟩ : Ret) = r
    obtain ⟨ea, hea⟩ : ∃ y_, y_ = row fKnown l := ⟨_, rfl⟩
    rw [← hea]
    intro add sub mul arith eq ne lt le gt ge neg conv mn mx not beq len at' ln bd cut app allS isNil mks set o hP F ho
    have le := F.len_at hea
    unfold At at le
    have hs : lt (sub .i64 left (len ea)) 0 = true := by rw [F.lt, F.sub, le, wrap64 (by omega) (by omega)]; simp; omega
    cbv
    rw [hs]
    cbv
    exact congrArg some hr
  · have hT : szL szKnown l left = l.foldl (fun a x => szKnown x a) (left - l.length) := by unfold szL sz1; rw [if_neg hl]
    rw [hT]
    refine fix_fn (fn := ir96) tb_96 rfl rfl (by decide) rfl ?_; simp only [shutArgs, shutS, List.map_cons, List.map_nil, ir96, shut_in q0, List.head?_nil, reduceCtorEq, if_false, sExt, sHello, sAnswer, sEdit, sDeal, sBox, sDialed, sKnown]
    obtain ⟨v, hv⟩ : ∃ y_, y_ = left - l.length := ⟨_, rfl⟩
    rw [← hv]
    have u3 : 0 ≤ v := by omega
    have u4 : v ≤ 1048576 := by omega
    have u5 : l.length ≤ 1048576 := by omega
    obtain ⟨T, hT⟩ : ∃ y_, y_ = l.foldl (fun a x => szKnown x a) v := ⟨_, rfl⟩
    rw [← hT]
    generalize hr : (⟨_, [], none⟩ : Ret) = r
    obtain ⟨ea, hea⟩ : ∃ y_, y_ = row fKnown l := ⟨_, rfl⟩
    rw [← hea]
    intro add sub mul arith eq ne lt le gt ge neg conv mn mx not beq len at' ln bd cut app allS isNil mks set o hP F ho
    have le := F.len_at hea
    have e1 : sub .i64 left (len ea) = v := by unfold At at le; rw [F.sub, le, wrap64 (by omega) (by omega), hv]
    have hs : lt v 0 = false := by rw [F.lt, hv]; simp; omega
    cbv
    rw [e1, hs]
    cbv
    refine loop_ind hP (σ := List (Known) × List (Known) × Int × Int) (fun s => [(0, R ea .sh), (1, I s.2.2.1), (4, I 0), (5, I s.2.2.2)])
      (fun s => At s.2.2.2 s.2.1.length ∧ l = s.2.1 ++ s.1 ∧ 0 ≤ s.2.2.1 ∧ s.2.2.1 ≤ 1048576 ∧ s.1.foldl (fun a x => szKnown x a) s.2.2.1 = T) (fun s => s.1.length) (l, [], v, 0) rfl ⟨rfl, rfl, u3, u4, hT.symm⟩ ?_
    rintro ⟨suf, pre, a, i⟩ ⟨hi, hl', ha0, ha1, hf⟩ ih
    simp only at hi hl' ha0 ha1 hf ih
    cbv
    cases suf with
    | nil =>
      rw [F.lt_f hi le (by simp [hl'])]; cbv
      simp only [List.foldl_nil] at hf
      rw [← hr, hf]
    | cons x suf =>
      rw [F.lt_t hi le (by simp [hl'])]; cbv
      rw [List.foldl_cons] at hf
      obtain ⟨e1, he1⟩ : ∃ y_, y_ = row fI x.lost := ⟨_, rfl⟩
      obtain ⟨ix, hix⟩ : ∃ y_, y_ = pre.length * 3 := ⟨_, rfl⟩
      rw [show at' 3 ea i = some (ix, [.int .i64 x.cls, .row () e1, .int .i64 x.tick]) by rw [hix, he1]; exact F.get hi hea hl' (fun _ => rfl) (by decide)]; cbv
      obtain ⟨a', ha'⟩ : ∃ y_, y_ = szKnown x a := ⟨_, rfl⟩
      rw [← ha'] at hf
      have u1 : a' ≤ 1048576 := by rw [ha']; exact (szKnown_Sz x).up ha1
      have u2 : -1 ≤ a' := by rw [ha']; exact (szKnown_Sz x).lo _ ha1
      have c1 : o 238 [sKnown x.cls e1 x.tick (.sp 0 1), I a] = some ⟨[I a'], [], none⟩ := by rw [ho, ha', he1]; exact ok238 x a (w.2 x (by rw [hl']; simp)) ha0 ha1 rfl
      rw [c1]; cbv
      refine both (fun c => ?_) (fun c => ?_) <;> rw [c] <;> cbv
      · simp only [F.lt, decide_eq_true_eq] at c
        rw [← hr, ← hf, szF_neg szKnown_Sz suf a' (by omega)]
      · simp only [F.lt, decide_eq_false_iff_not] at c
        refine ih (suf, pre ++ [x], a', add .i64 i 1) ⟨at_len (F.inc hi (by simp [hl'] at u5; omega)) (by simp), by simp [hl'], by simp only; omega, u1, hf⟩ (by simp)

/- laws.toIntS -/
theorem ok76 (l : List Int) (hl : l.length ≤ 1099511627776) {f0 : Fl} (h0 : inFl f0 = true) : fix Tb md 76 [R (row fI l) f0] = some ⟨[R (row fI l) (.ow false)], [], none⟩ := by
  refine fix_fn (fn := ir76) tb_76 rfl rfl (by decide) rfl ?_; simp only [shutArgs, shutS, List.map_cons, List.map_nil, ir76, shut_in h0, List.head?_nil, reduceCtorEq, if_false, sExt, sHello, sAnswer, sEdit, sDeal, sBox, sDialed, sKnown]
  generalize hr : (⟨_, [], none⟩ : Ret) = r
  obtain ⟨e1, he1⟩ : ∃ y_, y_ = row fI l := ⟨_, rfl⟩
  rw [← he1] at hr ⊢
  intro add sub mul arith eq ne lt le gt ge neg conv mn mx not beq len at' ln bd cut app allS isNil mks set o hP F ho
  have la := F.len_at he1
  cbv
  obtain ⟨e2, he2⟩ : ∃ y_, y_ = row fI (List.replicate l.length 0) := ⟨_, rfl⟩
  rw [show mks [.int .i64 0] (len e1) (len e1) = some e2 by rw [F.mks, show len e1 = _ from la, he2]; exact row_mk (f := fI) (a := 0) rfl (by simp [fI]) hl]; cbv
  refine loop_ind hP (σ := List Int × List Int × List (List V) × Int) (fun s => [(0, R e1 .sh), (2, R [] .nl), (3, R s.2.2.1 (.ow false)), (4, I s.2.2.2)])
    (fun s => At s.2.2.2 s.2.1.length ∧ l = s.2.1 ++ s.1 ∧ s.2.2.1 = row fI (s.2.1 ++ List.replicate s.1.length 0)) (fun s => s.1.length) (l, [], e2, 0) rfl ⟨rfl, rfl, by simpa using he2⟩ ?_
  rintro ⟨suf, pre, eo, i⟩ ⟨hi, hl', heo⟩ ih
  simp only at hi hl' heo ih
  cbv
  cases suf with
  | nil =>
    rw [F.lt_f hi la (by simp [hl'])]; cbv
    rw [← hr, heo, he1, hl']; simp
  | cons x suf =>
    rw [F.lt_t hi la (by simp [hl'])]; cbv
    obtain ⟨ix, hix⟩ : ∃ y_, y_ = pre.length * 1 := ⟨_, rfl⟩
    rw [show at' 1 e1 i = some (ix, [.int .i64 x]) by rw [hix]; exact F.get hi he1 hl' (fun _ => rfl) (by decide)]; cbv
    rw [show at' 1 eo i = some (ix, [.int .i64 0]) by rw [hix]; exact F.get hi heo rfl (fun _ => rfl) (by decide)]; cbv
    obtain ⟨eo', heo'⟩ : ∃ y_, y_ = row fI (pre ++ x :: List.replicate suf.length 0) := ⟨_, rfl⟩
    rw [show set eo ix [.int .i64 x] = some eo' by rw [F.set, heo, hix, heo']; exact set_one (fun _ => rfl) rfl]; cbv
    refine ih (suf, pre ++ [x], eo', add .i64 i 1) ⟨at_len (F.inc hi (by simp [hl'] at hl; omega)) (by simp), by simp [hl'], by simp [heo']⟩ (by simp)

/- laws.toKnown -/
theorem ok239 (x : Known) (w : x.Mid) {f0 : Fl} (q0 : inFl f0 = true) :
    fix Tb md 239 [sKnown x.cls (row fI x.lost) x.tick f0] = some ⟨[sKnown x.cls (row fI x.lost) x.tick (.ow false)], [], none⟩ := by
  refine fix_fn (fn := ir239) tb_239 rfl rfl (by decide) rfl ?_; simp only [shutArgs, shutS, List.map_cons, List.map_nil, ir239, shut_in q0, List.head?_nil, reduceCtorEq, if_false, sExt, sHello, sAnswer, sEdit, sDeal, sBox, sDialed, sKnown]
  generalize hr : (⟨_, [], none⟩ : Ret) = r
  obtain ⟨e1, he1⟩ : ∃ y_, y_ = row fI x.lost := ⟨_, rfl⟩
  rw [← he1] at hr ⊢
  unfold Known.Mid at w
  intro add sub mul arith eq ne lt le gt ge neg conv mn mx not beq len at' ln bd cut app allS isNil mks set o hP F ho
  have c1 : o 76 [R e1 (.sp 0 0)] = some ⟨[R e1 (.ow false)], [], none⟩ := by rw [ho, he1]; exact ok76 _ (by have := w; omega) rfl
  cbv
  rw [c1]; cbv
  exact congrArg some hr

/- laws.toKnownS -/
theorem ok98 (l : List (Known)) (w : l.length ≤ 1073741824 ∧ ∀ y ∈ l, y.Mid) {f0 : Fl} (q0 : inFl f0 = true) :
    fix Tb md 98 [R (row fKnown l) f0] = some ⟨[R (row fKnown l) (.ow false)], [], none⟩ := by
  have w1 := w.1
  refine fix_fn (fn := ir98) tb_98 rfl rfl (by decide) rfl ?_; simp only [shutArgs, shutS, List.map_cons, List.map_nil, ir98, shut_in q0, List.head?_nil, reduceCtorEq, if_false, sExt, sHello, sAnswer, sEdit, sDeal, sBox, sDialed, sKnown]
  generalize hr : (⟨_, [], none⟩ : Ret) = r
  obtain ⟨ea, hea⟩ : ∃ y_, y_ = row fKnown l := ⟨_, rfl⟩
  rw [← hea] at hr ⊢
  intro add sub mul arith eq ne lt le gt ge neg conv mn mx not beq len at' ln bd cut app allS isNil mks set o hP F ho
  have la := F.len_at hea
  cbv
  obtain ⟨e0, he0⟩ : ∃ y_, y_ = row fKnown (List.replicate l.length (⟨0, [], 0⟩ : Known)) := ⟨_, rfl⟩
  rw [show mks [.int .i64 0, .row () [], .int .i64 0] (len ea) (len ea) = some e0 by rw [F.mks, show len ea = _ from la, he0]; exact row_mk (f := fKnown) (a := (⟨0, [], 0⟩ : Known)) rfl (by simp [fKnown]) (show l.length ≤ 1099511627776 by omega)]; cbv
  refine loop_ind hP (σ := List (Known) × List (Known) × List (List V) × Int) (fun s => [(0, R ea .sh), (2, R [] .nl), (3, R s.2.2.1 (.ow false)), (4, I s.2.2.2)])
    (fun s => At s.2.2.2 s.2.1.length ∧ l = s.2.1 ++ s.1 ∧ s.2.2.1 = row fKnown (s.2.1 ++ List.replicate s.1.length (⟨0, [], 0⟩ : Known))) (fun s => s.1.length) (l, [], e0, 0) rfl ⟨rfl, rfl, by simpa using he0⟩ ?_
  rintro ⟨suf, pre, eo, i⟩ ⟨hi, hl', heo⟩ ih
  simp only at hi hl' heo ih
  cbv
  cases suf with
  | nil =>
    rw [F.lt_f hi la (by simp [hl'])]; cbv
    rw [← hr, heo, hea, hl']; simp
  | cons x suf =>
    rw [F.lt_t hi la (by simp [hl'])]; cbv
    obtain ⟨e1, he1⟩ : ∃ y_, y_ = row fI x.lost := ⟨_, rfl⟩
    obtain ⟨ix, hix⟩ : ∃ y_, y_ = pre.length * 3 := ⟨_, rfl⟩
    rw [show at' 3 ea i = some (ix, [.int .i64 x.cls, .row () e1, .int .i64 x.tick]) by rw [hix, he1]; exact F.get hi hea hl' (fun _ => rfl) (by decide)]; cbv
    have c1 : o 239 [sKnown x.cls e1 x.tick (.sp 0 1)] = some ⟨[sKnown x.cls e1 x.tick (.ow false)], [], none⟩ := by rw [ho, he1]; exact ok239 x (w.2 x (by rw [hl']; simp)) rfl
    rw [c1]; cbv
    rw [show at' 3 eo i = some (ix, [.int .i64 0, .row () [], .int .i64 0]) by rw [hix]; exact F.get hi heo rfl (fun _ => rfl) (by decide)]; cbv
    obtain ⟨eo', heo'⟩ : ∃ y_, y_ = row fKnown (pre ++ x :: List.replicate suf.length (⟨0, [], 0⟩ : Known)) := ⟨_, rfl⟩
    rw [show set eo ix [.int .i64 x.cls, .row () e1, .int .i64 x.tick] = some eo' by rw [F.set, heo, hix, heo', he1]; exact set_all (fun _ => rfl) rfl]; cbv
    refine ih (suf, pre ++ [x], eo', add .i64 i 1) ⟨at_len (F.inc hi (by simp [hl'] at w1; omega)) (by simp), by simp [hl'], by simp [heo']⟩ (by simp)

def mExt (x : Ext) (k : Int) : Ext := ⟨k, mI x.body (k + 1)⟩
def cExt (x : Ext) : Nat := 1 + x.body.length
def mExtS : List Ext → Int → List Ext
  | [], _ => []
  | x :: l, k => mExt x k :: mExtS l (k + (cExt x : Int))
def cExtS (l : List Ext) : Nat := (l.map cExt).sum
theorem mExtS_len : ∀ (l : List Ext) (k : Int), (mExtS l k).length = l.length
  | [], _ => rfl
  | _ :: l, k => by simp [mExtS, mExtS_len l _]
theorem mExtS_app : ∀ (a b : List Ext) (k x : Int), AtK x k (cExtS a) → mExtS (a ++ b) k = mExtS a k ++ mExtS b x
  | [], b, k, x, h => by simp [AtK, cExtS] at h; subst h; simp [mExtS]
  | y :: a, b, k, x, h => by
    simp only [List.cons_append, mExtS]
    rw [mExtS_app a b (k + (cExt y : Int)) x (by unfold AtK at *; simp [cExtS] at h ⊢; omega)]
theorem cExt_mid {x : Ext} (w : x.Mid) : cExt x ≤ 2147483650 := by unfold Ext.Mid at w; unfold cExt; omega
theorem cExt_small {x : Ext} (w : x.Small) : cExt x ≤ 2097154 := by unfold Ext.Small at w; unfold cExt; omega
theorem cExtS_mid {l : List Ext} (w : l.length ≤ 1073741824 ∧ ∀ y ∈ l, y.Mid) : cExtS l ≤ 2305843011361177600 :=
  Nat.le_trans (sum_le fun y hy => cExt_mid (w.2 y hy)) (Nat.mul_le_mul_right _ w.1)
theorem cExtS_small {l : List Ext} (w : l.length ≤ 1048576 ∧ ∀ y ∈ l, y.Small) : cExtS l ≤ 2199025352704 :=
  Nat.le_trans (sum_le fun y hy => cExt_small (w.2 y hy)) (Nat.mul_le_mul_right _ w.1)

/- laws.FnExactRecall -/
theorem law17 (l : List Known) (wl : l.length ≤ 9223372036854775807 ∧ ∀ y ∈ l, y.Fits) (clas : Int) (wclas : Int64 clas) (now : Int) (wnow : Int64 now) :
    fix Tb md 17 [R (row fKnown l) (.sp 0 0), I clas, I now] = some ⟨[B true], [], none⟩ := by
  refine fix_fn (fn := ir17) tb_17 rfl rfl (by decide) rfl ?_; simp only [shutArgs, shutS, List.map_cons, List.map_nil, ir17, List.head?_nil, reduceCtorEq, if_false, sExt, sHello, sAnswer, sEdit, sDeal, sBox, sDialed, sKnown, shut_in (f := .sp 0 0) rfl]
  generalize hr : (⟨_, [], none⟩ : Ret) = r
  obtain ⟨e1, he1⟩ : ∃ y_, y_ = row fKnown l := ⟨_, rfl⟩
  rw [← he1]
  obtain ⟨v1, hv1⟩ : ∃ y_, y_ = szL szKnown l 1048576 := ⟨_, rfl⟩
  have u1 : v1 ≤ 1048576 := by rw [hv1]; exact (Sz.list szKnown_Sz l).up (by decide)
  have s1 := fun q : 0 ≤ v1 => (Sz.list szKnown_Sz l).ok 1048576 (by decide) (hv1 ▸ q)
  obtain ⟨w, hw⟩ : ∃ y_, y_ = rcV l clas now := ⟨_, rfl⟩
  intro add sub mul arith eq ne lt le gt ge neg conv mn mx not beq len at' ln bd cut app allS isNil mks set o hP F ho
  have b1 : o 96 [R e1 (.sp 0 0), I 1048576] = some ⟨[I v1], [], none⟩ := by rw [ho, hv1, he1]; exact ok96 l _ wl (by decide) (by decide) rfl 
  cbv
  rw [b1]; cbv
  refine both (fun d1 => ?_) (fun d1 => ?_) <;> rw [d1] <;> cbv
  · exact congrArg some hr
  have p1 : 0 ≤ v1 := by simp only [F.lt, decide_eq_false_iff_not] at d1; omega
  have tl := s1 p1
  have tlm : l.length ≤ 1073741824 ∧ ∀ y ∈ l, y.Mid := ⟨Nat.le_trans tl.1 (by decide), fun y hy => (tl.2 y hy).mid⟩
  have rl := tl
  have kl : o 98 [R e1 (.sp 0 0)] = some ⟨[R e1 (.ow false)], [], none⟩ := by rw [ho, he1]; exact ok98 l tlm rfl 
  have ql : o 100 [R e1 (.sp 0 0), R e1 (.sp 1 0)] = some ⟨[B true], [], none⟩ := by rw [ho, he1]; exact ok100 l tlm rfl  rfl 
  have wm : w.length ≤ 1073741824 := by rw [hw]; exact rcV_len tl
  obtain ⟨g0, hg0⟩ : ∃ y_, y_ = row fI w := ⟨_, rfl⟩
  obtain ⟨h0, hh0⟩ : ∃ y_, y_ = row fI (mI w 1) := ⟨_, rfl⟩
  obtain ⟨zz, hzz⟩ : ∃ y_, y_ = 1 + (w.length : Int) := ⟨_, rfl⟩
  have lr : Lim 1 (w.length) := Lim.of1 (by have := wm; omega)
  have l2 : lt zz 0 = false := by rw [F.lt, hzz]; simp; omega
  have l3 : ne zz zz = false := F.ne_f rfl
  have a0 : AtK 1 1 0 := AtK.zero
  have y0 := cKnownS_small tl
  have lk : Lim 1 (0 + cKnownS l) := Lim.of1 (by omega)
  obtain ⟨z1, hz1⟩ : ∃ y_, y_ = 1 + (cKnownS l : Int) := ⟨_, rfl⟩
  have a1 : AtK z1 1 (0 + cKnownS l) := hz1 ▸ a0.plus
  have v1m : Lim 1 (cKnownS l) := a0.lim lk (by omega)
  obtain ⟨x0_0, hx0_0⟩ : ∃ y_, y_ = row fKnown (mKnownS l 1) := ⟨_, rfl⟩
  have n1 : o 1124 [R e1 (.mp 0), I 1] = some ⟨[I z1], [.row () x0_0], none⟩ := by rw [ho, hz1, he1, hx0_0]; exact ok1124 _ _ v1m (Nat.le_trans tlm.1 (by decide)) (fun y hy => Nat.le_trans ((tlm.2 y hy)) (by decide))
  have l1 : lt z1 0 = false := by rw [F.lt]; have := a1.same; simp; omega
  have hs : fix Tb md 122 [R (row fKnown l) (.sp 0 0), I clas, I now] = some ⟨[R (row fI w) (.ow false)], [], none⟩ := by rw [hw]; exact ok122 l clas now tl.1 (fun y hy => Nat.le_trans (show y.lost.length ≤ 1048576 from tl.2 y hy) (by decide)) rfl
  have hi : (fix Tb md 123 [R (row fKnown l) (.sp 0 0), I clas, I now] = some ⟨[R (row fI w) (.ow false)], [], none⟩) ∨ (w = [] ∧ fix Tb md 123 [R (row fKnown l) (.sp 0 0), I clas, I now] = some ⟨[R [] .nl], [], none⟩) := by rw [hw]; exact ok123 l clas now tl.1 (fun y hy => Nat.le_trans (show y.lost.length ≤ 1048576 from tl.2 y hy) (by decide)) rfl
  rcases hi with hi | ⟨ni0, hi⟩
  · have m1 : o 122 [R e1 (.sp 0 0), I clas, I now] = some ⟨[R g0 (.ow false)], [], none⟩ := by rw [ho, he1]; simp only [hg0]; exact hs
    have m2 : o 123 [R e1 (.sp 0 0), I clas, I now] = some ⟨[R g0 (.ow false)], [], none⟩ := by rw [ho, he1]; simp only [hg0]; exact hi
    have r1 : o 79 [R g0 (.sp 0 0), R g0 (.sp 1 0)] = some ⟨[B true], [], none⟩ := by
      have h := ok79t w (by omega) (f0 := (.sp 0 0)) (f1 := (.sp 1 0)) rfl rfl 
      rw [ho]
      try simp only [hg0]
      exact h
    have r2 : o 1080 [R g0 (.mp 0), I 1] = some ⟨[I zz], [.row () h0], none⟩ := by
      have h := ok1080 w 1 lr (by omega)
      rw [ho, hzz]
      try simp only [hg0, hh0]
      exact h
    have r3 : o 125 [R h0 (.sp 0 0), I 1] = some ⟨[I zz], [], none⟩ := by
      have h := ok125 w 1 lr (by omega) (f0 := (.sp 0 0)) rfl
      rw [ho, hzz]
      try simp only [hh0]
      exact h
    repeat' (first | (rw [kl]; cbv) | (rw [ql]; cbv) | (rw [m1]; cbv) | (rw [m2]; cbv) | (rw [r1]; cbv) | (rw [n1]; cbv) | (rw [r2]; cbv) | (rw [r3]; cbv) | (rw [l1]; cbv) | (rw [l2]; cbv) | (rw [l3]; cbv) | (rw [F.ne_f rfl]; cbv) | (rw [show not true = false by rw [F.not]; rfl]; cbv) | exact congrArg some hr)
  · have m1 : o 122 [R e1 (.sp 0 0), I clas, I now] = some ⟨[R g0 (.ow false)], [], none⟩ := by rw [ho, he1]; simp only [hg0]; exact hs
    have m2 : o 123 [R e1 (.sp 0 0), I clas, I now] = some ⟨[R [] .nl], [], none⟩ := by rw [ho, he1]; exact hi
    have r1 : o 79 [R [] .nl, R g0 (.sp 1 0)] = some ⟨[B true], [], none⟩ := by
      have h := ok79t w (by omega) (f0 := .nl) (f1 := (.sp 1 0)) rfl rfl 
      try simp only [ni0] at h
      rw [ho]
      try simp only [hg0, ni0]
      exact h
    have r2 : o 1080 [R [] .nl, I 1] = some ⟨[I zz], [], none⟩ := by rw [ho, show zz = 1 by rw [hzz, ni0]; simp]; exact ok1080n 1
    have r3 : o 125 [R [] .nl, I 1] = some ⟨[I zz], [], none⟩ := by
      have h := ok125 w 1 lr (by omega) (f0 := .nl) rfl
      try simp only [mI, mExtS, ni0] at h
      rw [ho, hzz]
      try simp only [mI, mExtS, ni0]
      exact h
    repeat' (first | (rw [kl]; cbv) | (rw [ql]; cbv) | (rw [m1]; cbv) | (rw [m2]; cbv) | (rw [r1]; cbv) | (rw [n1]; cbv) | (rw [r2]; cbv) | (rw [r3]; cbv) | (rw [l1]; cbv) | (rw [l2]; cbv) | (rw [l3]; cbv) | (rw [F.ne_f rfl]; cbv) | (rw [show not true = false by rw [F.not]; rfl]; cbv) | exact congrArg some hr)
theorem ans17 : Answers Tb md 17 [(false, [.row [.int .i64, .row [.int .i64], .int .i64]]), (false, [.int .i64]), (false, [.int .i64])] := answers_of (by
  intro vs h
  obtain ⟨_, _, rfl, h1, h⟩ := fitL_cons h
  cases fitL_nil h
  obtain ⟨l, rfl, wl⟩ := fit_row (fun _ => fitL_Known) h1
  intro vs h
  obtain ⟨clas, rfl, wclas⟩ := fitL_I h
  intro vs h
  obtain ⟨now, rfl, wnow⟩ := fitL_I h
  exact law17 l wl clas wclas now wnow)

end Go.Vm
