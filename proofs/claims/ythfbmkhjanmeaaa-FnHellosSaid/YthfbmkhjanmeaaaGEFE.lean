/- What the functions answer. -/
import Derived.Test.YthfbmkhjanmeaaaGETab
import Derived.Test.YthfbmkhjanmeaaaGEFA
import Derived.Test.YthfbmkhjanmeaaaGEFB
import Derived.Test.YthfbmkhjanmeaaaGEFC
import Derived.Test.YthfbmkhjanmeaaaGEFD
set_option maxHeartbeats 4000000
set_option maxRecDepth 10000
set_option linter.unusedVariables false
set_option linter.unusedSimpArgs false
namespace Go.Vm
theorem XL.mono {k m : Nat} {l : List Ext} (h : XL k l) (hm : k ≤ m) : XL m l := ⟨Nat.le_trans h.1 hm, h.2⟩
theorem XL.push {k : Nat} {l : List Ext} {x : Ext} (h : XL k l) (h1 : -1 ≤ x.tag ∧ x.tag ≤ 256) (h2 : VL 5 x.body) : XL (k + 1) (l ++ [x]) := by
 refine ⟨by have := h.1; simp; omega, fun y hy => ?_⟩
 rcases List.mem_append.1 hy with e | e
 ·exact h.2 y e
 ·simp at e; rw [e]; exact ⟨h1, h2⟩
theorem dr3344 {B : List Int} {i : Int} (w : CW B i) (h : Int) : ∃ r, fix Tb md 3344 [sCur (row fU B) (.sp 0 0) i h] = some r ∧ ∃ l i' h', r = ⟨[R (row fExt l) (.ow false)], [], some (vCur (row fU B) i' h')⟩ ∧ CW B i' ∧ XL 5 l := by
 obtain ⟨n1, i1, h1, k1, w1, r1, r1'⟩ := below_dr w h 6 (by decide) (by decide)
 have kb := fun (n : Int) (h0 : 0 < n) (h1 : n ≤ 256) {i : Int} (w : CW B i) (h : Int) => below_dr w h n h0 h1
 have kt := fun {i : Int} (w : CW B i) (h : Int) => int_dr w h [1, 2, 3, 10, 26, 40, 42, 200] (by simp) (by simp) (f := .sp 1 0) rfl
 simp only [show row fI [1, 2, 3, 10, 26, 40, 42, 200] = [[.int .i64 1], [.int .i64 2], [.int .i64 3], [.int .i64 10], [.int .i64 26], [.int .i64 40], [.int .i64 42], [.int .i64 200]] from rfl] at kt
 have kp := fun (l : List Ext) (t : Int) (hl : l.length ≤ 1099511627776) => ok286 l t hl (f0 := .sp 0 0) rfl
 obtain ⟨eb, heb⟩ := nm (row fU B)
 rw [← heb] at k1 kb kt ⊢
 refine fix_bxE (fn := ir3344) tb_3344 rfl rfl rfl (by decide) ?_; intro Q W hW hQ; simp only [List.map_nil, ir3344]
 have hW' : ∀ el i' h' l, el = row fExt l → CW B i' → XL 5 l → W (some ⟨[R el (.ow false)], [], some (vCur eb i' h')⟩) := fun el i' h' l e a b => hW _ ⟨l, i', h', by rw [e], a, b⟩
 clear hW
 intro add sub mul arith eq ne lt le gt ge neg conv mn mx not beq len at' ln bd cut app allS isNil mks set o hP F ho
 rw [← ho] at k1 kb kt kp
 have hgt : ∀ (z : Int) (n : Nat), z = (n : Int) → gt z 0 = decide (0 < n) := fun z n e => by rw [F.gt, e]; simp
 have hdec : ∀ (z : Int) (n : Nat), z = ((n + 1 : Nat) : Int) → n ≤ 1000 → sub .i64 z 1 = (n : Int) := fun z n e hn => by rw [F.sub, e, wrap64 (by omega) (by omega)]; omega
 cbv
 rw [k1]; cbv
 refine loop_ind2 hP (σ := Nat × List Ext × Int × List (List V) × Int × Int × Option (Int × List (List V) × Fl × Int)) (fun s => match s.2.2.2.2.2.2 with
   | none => [(0, ⟨.ptr 83 0, []⟩), (2, R [] .nl), (3, R s.2.2.2.1 (.ow false)), (4, I s.2.2.1), (83, ⟨.box (), [⟨.row () eb, .sp 0 0⟩, ⟨.int .i64 s.2.2.2.2.1, .sc⟩, ⟨.int .i64 s.2.2.2.2.2.1, .sc⟩]⟩)]
   | some j => [(0, ⟨.ptr 83 0, []⟩), (2, R [] .nl), (3, R s.2.2.2.1 (.ow false)), (4, I s.2.2.1), (5, ⟨.ptr 46 0, []⟩), (6, I j.2.2.2), (46, ⟨.box (), [⟨.int .i64 j.1, .sc⟩, ⟨.row () j.2.1, j.2.2.1⟩]⟩), (83, ⟨.box (), [⟨.row () eb, .sp 0 0⟩, ⟨.int .i64 s.2.2.2.2.1, .sc⟩, ⟨.int .i64 s.2.2.2.2.2.1, .sc⟩]⟩)]) (fun s => CW B s.2.2.2.2.1 ∧ s.2.2.1 = (s.1 : Int) ∧ s.2.2.2.1 = row fExt s.2.1 ∧ s.1 ≤ 5 ∧ XL (5 - s.1) s.2.1) (fun s => s.1) (n1.toNat, [], n1, [], i1, h1, none) rfl ⟨w1, by simp only; omega, rfl, by simp only; omega, ⟨by simp, by simp⟩⟩ ?_
 intro c9 Q1 hc9 hQ1
 rintro ⟨n, l, nn, el, i, h, j⟩ ⟨hw, hnn, hel, hn, hl⟩ ih
 simp only at hw hnn hel hn hl ih
 rcases j with _ | ⟨j1, j2, j3, j4⟩
 all_goals
  cbv
  cases n with
  | zero =>
   rw [hgt nn 0 hnn]; cbv
   rw [hQ1]; cbv
   rw [hQ]; cbv
   exact hW' el i h l hel hw hl
  | succ n =>
   rw [hgt nn (n + 1) hnn]; cbv
   obtain ⟨t, i2, h2, k2, w2, rt⟩ := kt hw h
   simp only [List.mem_cons, List.not_mem_nil, or_false] at rt
   rw [k2]; cbv
   obtain ⟨m0, i3, h3, k3, w3, r3, r3'⟩ := kb 4 (by decide) (by decide) w2 h2
   rw [k3]; cbv
   refine loop_ind2 hP (σ := Nat × Int × Int × Int × Option (List Int × List (List V))) (fun s => match s.2.2.2.2 with
    | none => [(0, ⟨.ptr 83 0, []⟩), (2, R [] .nl), (3, R el (.ow false)), (4, I nn), (5, ⟨.ptr 46 0, []⟩), (6, I s.2.1), (46, ⟨.box (), [⟨.int .i64 t, .sc⟩, ⟨.row () [], .nl⟩]⟩), (83, ⟨.box (), [⟨.row () eb, .sp 0 0⟩, ⟨.int .i64 s.2.2.1, .sc⟩, ⟨.int .i64 s.2.2.2.1, .sc⟩]⟩)]
    | some j => [(0, ⟨.ptr 83 0, []⟩), (2, R [] .nl), (3, R el (.ow false)), (4, I nn), (5, ⟨.ptr 46 0, []⟩), (6, I s.2.1), (46, ⟨.box (), [⟨.int .i64 t, .sc⟩, ⟨.row () j.2, .ow false⟩]⟩), (83, ⟨.box (), [⟨.row () eb, .sp 0 0⟩, ⟨.int .i64 s.2.2.1, .sc⟩, ⟨.int .i64 s.2.2.2.1, .sc⟩]⟩)]) (fun s => CW B s.2.2.1 ∧ s.2.1 = (s.1 : Int) ∧ s.1 ≤ 3 ∧ ∀ j, s.2.2.2.2 = some j → j.2 = row fI j.1 ∧ VL (3 - s.1) j.1) (fun s => s.1) (m0.toNat, m0, i3, h3, none) rfl ⟨w3, by simp only; omega, by simp only; omega, by simp⟩ ?_
   clear k2 k3 w3 r3 r3'
   intro c8 Q2 hc8 hQ2
   rintro ⟨m, mm, i3, h3, j⟩ ⟨w3, hmm, hm, hj⟩ ih2
   simp only at w3 hmm hm hj ih2
   rcases j with _ | ⟨b, e⟩
   ·clear hj
    cbv
    cases m with
    | zero =>
     rw [hgt mm 0 hmm]; cbv
     rw [hQ2]; cbv
     obtain ⟨x, hx⟩ := nm (extOf l t)
     have kx := kp l t (by have := hl.1; omega)
     rw [← hel, ← hx] at kx
     rw [kx]; cbv
     refine both (fun d1 => ?_) (fun d1 => ?_) <;> rw [d1] <;> cbv
     ·obtain ⟨el', hel'⟩ := nm (row fExt (l ++ [⟨t, []⟩]))
      rw [show allS [[.int .i64 t, .row () []]] = false by rw [F.allS]; rfl]; cbv
      rw [show app 2 el [[.int .i64 t, .row () []]] = some el' by rw [hel']; exact F.push (f := fExt) hel (fun _ => rfl) rfl (by have := hl.1; omega)]; cbv
      rw [hdec nn n hnn (by omega)]
      exact ih (n, l ++ [⟨t, []⟩], (n : Int), el', i3, h3, some (t, [], .nl, mm)) ⟨w3, rfl, hel', by omega, by have := hl.push (x := ⟨t, []⟩) (by simp only; omega) (⟨by simp, by simp⟩); exact this.mono (by omega)⟩ (by simp)
     ·rw [hdec nn n hnn (by omega)]
      exact ih (n, l, (n : Int), el, i3, h3, some (t, [], .nl, mm)) ⟨w3, rfl, hel, by omega, hl.mono (by omega)⟩ (by simp)
    | succ m =>
     rw [hgt mm (m + 1) hmm]; cbv
     obtain ⟨y, i4, h4, k4, w4, r4, r4'⟩ := kb 256 (by decide) (by decide) w3 h3
     obtain ⟨e', he'⟩ := nm (row fI ([] ++ [y]))
     rw [k4]; cbv
     rw [show allS [[.int .i64 y]] = true by rw [F.allS]; rfl]; cbv
     rw [show app 1 [] [[.int .i64 y]] = some e' by rw [he']; exact F.push (f := fI) (l := []) rfl (fun _ => rfl) rfl (by simp)]; cbv
     rw [show isNil [[.int .i64 y]] = false by rw [F.isNil]; rfl]; cbv
     rw [hdec mm m hmm (by omega)]
     exact ih2 (m, (m : Int), i4, h4, some ([] ++ [y], e')) ⟨w4, rfl, by simp only; omega, fun j e => by
      cases e
      exact ⟨he', (VL.one (by omega) (by omega)).mono (by simp only; omega)⟩⟩ (by simp)
   ·obtain ⟨he, hb⟩ := hj _ rfl
    simp only at he hb
    cbv
    cases m with
    | zero =>
     rw [hgt mm 0 hmm]; cbv
     rw [hQ2]; cbv
     obtain ⟨x, hx⟩ := nm (extOf l t)
     have kx := kp l t (by have := hl.1; omega)
     rw [← hel, ← hx] at kx
     rw [kx]; cbv
     refine both (fun d1 => ?_) (fun d1 => ?_) <;> rw [d1] <;> cbv
     ·obtain ⟨el', hel'⟩ := nm (row fExt (l ++ [⟨t, b⟩]))
      rw [show allS [[.int .i64 t, .row () e]] = false by rw [F.allS]; rfl]; cbv
      rw [show app 2 el [[.int .i64 t, .row () e]] = some el' by rw [hel']; exact F.push (f := fExt) hel (fun _ => rfl) (by rw [he]; rfl) (by have := hl.1; omega)]; cbv
      rw [hdec nn n hnn (by omega)]
      exact ih (n, l ++ [⟨t, b⟩], (n : Int), el', i3, h3, some (t, e, .fr, mm)) ⟨w3, rfl, hel', by omega, by have := hl.push (x := ⟨t, b⟩) (by simp only; omega) (hb.mono (by omega)); exact this.mono (by omega)⟩ (by simp)
     ·rw [hdec nn n hnn (by omega)]
      exact ih (n, l, (n : Int), el, i3, h3, some (t, e, (.ow false), mm)) ⟨w3, rfl, hel, by omega, hl.mono (by omega)⟩ (by simp)
    | succ m =>
     rw [hgt mm (m + 1) hmm]; cbv
     obtain ⟨y, i4, h4, k4, w4, r4, r4'⟩ := kb 256 (by decide) (by decide) w3 h3
     obtain ⟨e', he'⟩ := nm (row fI (b ++ [y]))
     rw [k4]; cbv
     rw [show allS [[.int .i64 y]] = true by rw [F.allS]; rfl]; cbv
     rw [show app 1 e [[.int .i64 y]] = some e' by rw [he']; exact F.push (f := fI) (l := b) he (fun _ => rfl) rfl (by have := hb.1; omega)]; cbv
     rw [hdec mm m hmm (by omega)]
     exact ih2 (m, (m : Int), i4, h4, some (b ++ [y], e')) ⟨w4, rfl, by simp only; omega, fun j e => by
      cases e
      exact ⟨he', (hb.push (by omega) (by omega)).mono (by simp only; omega)⟩⟩ (by simp)
theorem dr3247 {B : List Int} {i : Int} (w : CW B i) (h : Int) : ∃ r, fix Tb md 3247 [sCur (row fU B) (.sp 0 0) i h] = some r ∧ ∃ l x i' h', r = ⟨[sHello (row fI l) (row fExt x) (.ow false) (.ow false)], [], some (vCur (row fU B) i' h')⟩ ∧ CW B i' ∧ VL 4 l ∧ l ≠ [] ∧ XL 5 x := by
 obtain ⟨_, k1, l, i1, h1, rfl, w1, hl, hne⟩ := dr3248 w h
 obtain ⟨_, k2, x, i2, h2, rfl, w2, hx⟩ := dr3344 w1 h1
 obtain ⟨eb, heb⟩ := nm (row fU B)
 obtain ⟨el, hel⟩ := nm (row fI l)
 obtain ⟨ex, hex⟩ := nm (row fExt x)
 rw [← heb] at k1 k2 ⊢
 rw [← hel] at k1
 rw [← hex] at k2
 refine fix_bxE (fn := ir3247) tb_3247 rfl rfl rfl (by decide) ?_; intro Q W hW hQ; simp only [List.map_nil, ir3247]
 have hW' : W (some ⟨[sHello el ex (.ow false) (.ow false)], [], some (vCur eb i2 h2)⟩) := hW _ ⟨l, x, i2, h2, by rw [hel, hex], w2, hl, hne, hx⟩
 clear hW
 intro add sub mul arith eq ne lt le gt ge neg conv mn mx not beq len at' ln bd cut app allS isNil mks set o hP F ho
 rw [← ho] at k1 k2
 cbv
 rw [k1]; cbv
 rw [k2]; cbv
 rw [hQ]; cbv
 exact hW'
theorem dr3315 {B : List Int} {i : Int} (w : CW B i) (h : Int) : ∃ r, fix Tb md 3315 [sCur (row fU B) (.sp 0 0) i h] = some r ∧ ∃ l i' h', r = ⟨[R (row fI l) (.ow false)], [], some (vCur (row fU B) i' h')⟩ ∧ CW B i' ∧ VL 5 l := by
 obtain ⟨_, k1, l, i1, h1, rfl, w1, hl, hne⟩ := dr3248 w h
 obtain ⟨n, i2, h2, k2, w2, r2, r2'⟩ := below_dr w1 h1 9 (by decide) (by decide)
 obtain ⟨v, i3, h3, k3, w3, rv⟩ := int_dr w2 h2 [0, -1, 9, 10] (by simp) (by simp) (f := .sp 1 0) rfl
 rw [show row fI [0, -1, 9, 10] = [[.int .i64 0], [.int .i64 (-1)], [.int .i64 9], [.int .i64 10]] from rfl] at k3
 simp only [List.mem_cons, List.not_mem_nil, or_false] at rv
 obtain ⟨x, t, rfl⟩ := List.exists_cons_of_ne_nil hne
 have hx := hl.2 x (by simp)
 obtain ⟨eb, heb⟩ := nm (row fU B)
 obtain ⟨el, hel⟩ := nm (row fI (x :: t))
 obtain ⟨e1, he1⟩ := nm (row fI (v :: t))
 obtain ⟨e2, he2⟩ := nm (row fI (x :: t ++ [x]))
 rw [← heb] at k1 k2 k3 ⊢
 rw [← hel] at k1
 have hll : (x :: t).length ≤ 4 := hl.1
 obtain ⟨z, hz⟩ := nm (([] : List Int).length * 1)
 refine fix_bxE (fn := ir3315) tb_3315 rfl rfl rfl (by decide) ?_; intro Q W hW hQ; simp only [List.map_nil, ir3315]
 have hW' : ∀ el i' h' l, el = row fI l → CW B i' → VL 5 l → W (some ⟨[R el (.ow false)], [], some (vCur eb i' h')⟩) := fun el i' h' l e a b => hW _ ⟨l, i', h', by rw [e], a, b⟩
 clear hW
 intro add sub mul arith eq ne lt le gt ge neg conv mn mx not beq len at' ln bd cut app allS isNil mks set o hP F ho
 rw [← ho] at k1 k2 k3
 have p0 : at' 1 el 0 = some (z, [.int .i64 x]) := by rw [hz]; exact F.get (pre := []) at0 hel rfl (fun _ => rfl) (by decide)
 have p1 : set el z [.int .i64 v] = some e1 := by rw [F.set, hel, hz, he1]; exact set_all (pre := []) (fun _ => rfl) rfl
 have p2 : allS [[.int .i64 x]] = true := by rw [F.allS]; rfl
 have p3 : app 1 el [[.int .i64 x]] = some e2 := by rw [he2]; exact F.push (f := fI) hel (fun _ => rfl) rfl (by omega)
 cbv
 rw [k1]; cbv
 rw [k2]; cbv
 refine both (fun d1 => ?_) (fun d1 => ?_) <;> rw [d1] <;> cbv
 ·rw [k3]; cbv
  rw [p0]; cbv
  rw [p1]; cbv
  rw [hQ]; cbv
  exact hW' e1 i3 h3 (v :: t) he1 w3 ⟨by simp at hll ⊢; omega, fun y hy => by
   rcases List.mem_cons.1 hy with e | e
   ·omega
   ·exact hl.2 y (List.mem_cons_of_mem _ e)⟩
 refine both (fun d2 => ?_) (fun d2 => ?_) <;> rw [d2] <;> cbv
 ·rw [p0]; cbv
  rw [p2]; cbv
  rw [p3]; cbv
  rw [hQ]; cbv
  exact hW' e2 i2 h2 _ he2 w2 (hl.push hx.1 hx.2)
 refine both (fun d3 => ?_) (fun d3 => ?_) <;> rw [d3] <;> cbv
 ·rw [hQ]; cbv
  exact hW' [] i2 h2 [] rfl w2 ⟨by simp, by simp⟩
 ·rw [hQ]; cbv
  exact hW' el i2 h2 _ hel w2 (hl.mono (by omega))
def AtK (x k : Int) (n : Nat) : Prop := x = k + (n : Int)
def Lim (k : Int) (n : Nat) : Prop := 0 ≤ k ∧ k + (n : Int) ≤ 4611686018427387904
theorem AtK.zero {k : Int} : AtK k k 0 := by unfold AtK; simp
theorem AtK.one {x k : Int} {n : Nat} (h : AtK x k n) : AtK (x + 1) k (n + 1) := by unfold AtK at *; omega
theorem AtK.plus {x k : Int} {n m : Nat} (h : AtK x k n) : AtK (x + (m : Int)) k (n + m) := by unfold AtK at *; omega
theorem AtK.eq {x k : Int} {n m : Nat} (h : AtK x k n) (e : n = m) : AtK x k m := e ▸ h
theorem AtK.same {x k : Int} {n : Nat} (h : AtK x k n) : x = k + (n : Int) := h
theorem AtK.lim {x k : Int} {n m q : Nat} (h : AtK x k n) (l : Lim k q) (e : n + m ≤ q) : Lim x m := by unfold AtK Lim at *; omega
theorem Lim.nn {k : Int} {n : Nat} (l : Lim k n) : 0 ≤ k := l.1
theorem AtK.inc {x k : Int} {n q : Nat} (h : AtK x k n) (l : Lim k q) (e : n ≤ q) : IntKind.wrap .i64 (x + 1) = x + 1 := by unfold AtK Lim at *; exact wrap64 (by omega) (by omega)
theorem Lim.le {k : Int} {n m : Nat} (l : Lim k n) (e : m ≤ n) : Lim k m := by unfold Lim at *; omega
theorem sum_le {α : Type} {c : α → Nat} {B : Nat} : ∀ {l : List α}, (∀ y ∈ l, c y ≤ B) → (l.map c).sum ≤ l.length * B
 | [], _ => by simp
 | x :: l, h => by
  have h1 := h x (by simp)
  have h2 := sum_le (l := l) (fun y hy => h y (by simp [hy]))
  simp only [List.map_cons, List.sum_cons, List.length_cons, Nat.succ_mul]
  omega
theorem Lim.of1 {n : Nat} (h : n ≤ 4611686018427387903) : Lim 1 n := ⟨by decide, by omega⟩
def mI : List Int → Int → List Int
 | [], _ => []
 | _ :: l, k => k :: mI l (k + 1)
theorem mI_len : ∀ (l : List Int) (k : Int), (mI l k).length = l.length
 | [], _ => rfl
 | _ :: l, k => by simp [mI, mI_len l (k + 1)]
theorem mI_app : ∀ (a b : List Int) (k x : Int), AtK x k a.length → mI (a ++ b) k = mI a k ++ mI b x
 | [], b, k, x, h => by simp [AtK] at h; subst h; simp [mI]
 | y :: a, b, k, x, h => by
  simp only [List.cons_append, mI]
  rw [mI_app a b (k + 1) x (by unfold AtK at *; simp at h; omega)]
theorem set_fld {α : Type} {pre suf : List α} {f : α → List V} {k : Nat} {x y : α} {j : Nat} {v : V} {ix : Nat} (hk : ∀ a, (f a).length = k) (hj : j < k) (hy : f y = (f x).set j v) (hix : ix = pre.length * k) : setFlat (row f (pre ++ x :: suf)) (ix + j) [v] = some (row f (pre ++ y :: suf)) := by
 have := set_raw (k := k) [v] j (row f pre) (f x) (row f suf) (by intro a ha; obtain ⟨b, _, rfl⟩ := List.mem_map.1 ha; exact hk b) (hk x) (by simp; omega)
 rw [row_len] at this
 subst hix
 rw [show row f (pre ++ x :: suf) = row f pre ++ f x :: row f suf by simp [row], this]
 have e : (f x).take j ++ [v] ++ (f x).drop (j + [v].length) = f y := by
  rw [hy, List.set_eq_take_append_cons_drop, if_pos (by rw [hk]; exact hj)]; simp
 rw [e]
 simp [row]
theorem dr3316 {B : List Int} {i : Int} (w : CW B i) (h : Int) : ∃ r, fix Tb md 3316 [sCur (row fU B) (.sp 0 0) i h] = some r ∧ ∃ l i' h', r = ⟨[R (row fExt l) (.ow false)], [], some (vCur (row fU B) i' h')⟩ ∧ CW B i' ∧ YL l := by
 obtain ⟨_, k1, l, i1, h1, rfl, w1, hl⟩ := dr3344 w h
 obtain ⟨eb, heb⟩ := nm (row fU B)
 obtain ⟨el, hel⟩ := nm (row fExt l)
 rw [← hel] at k1
 rw [← heb] at k1 ⊢
 have hl5 : l.length ≤ 5 := hl.1
 have kb := fun (n : Int) (h0 : 0 < n) (h1 : n ≤ 256) {i : Int} (w : CW B i) (h : Int) => below_dr w h n h0 h1
 have ka := fun {i : Int} (w : CW B i) (h : Int) => int_dr w h [-1, 0, 255, 256] (by simp) (by simp) (f := .sp 1 0) rfl
 simp only [show row fI [-1, 0, 255, 256] = [[.int .i64 (-1)], [.int .i64 0], [.int .i64 255], [.int .i64 256]] from rfl] at ka
 have kc := fun {i : Int} (w : CW B i) (h : Int) => int_dr w h [-1, 255, 256] (by simp) (by simp) (f := .sp 1 0) rfl
 simp only [show row fI [-1, 255, 256] = [[.int .i64 (-1)], [.int .i64 255], [.int .i64 256]] from rfl] at kc
 rw [← heb] at kb ka kc
 refine fix_bxE (fn := ir3316) tb_3316 rfl rfl rfl (by decide) ?_; intro Q W hW hQ; simp only [List.map_nil, ir3316]
 have hW' : ∀ el i' h' l, el = row fExt l → CW B i' → YL l → W (some ⟨[R el (.ow false)], [], some (vCur eb i' h')⟩) := fun el i' h' l e a b => hW _ ⟨l, i', h', by rw [e], a, b⟩
 clear hW
 intro add sub mul arith eq ne lt le gt ge neg conv mn mx not beq len at' ln bd cut app allS isNil mks set o hP F ho
 rw [← ho] at k1 kb ka kc
 have ll := F.len_at hel
 have g1 : eq (len el) 0 = decide (l.length = 0) := F.eq_n ll (m := 0) rfl
 cbv
 rw [k1]; cbv
 refine both (fun d1 => ?_) (fun d1 => ?_) <;> rw [d1] <;> cbv
 ·rw [hQ]; cbv
  exact hW' el i1 h1 l hel w1 hl.yl
 rw [g1, decide_eq_false_iff_not] at d1
 obtain ⟨n, hn⟩ := nm (len el)
 have hn' : n = (l.length : Int) := by rw [hn]; exact ll
 obtain ⟨ii, i2, h2, k2, w2, r2, r2'⟩ := kb n (by omega) (by omega) w1 h1
 obtain ⟨pre, x, suf, hls, hp⟩ : ∃ pre x suf, l = pre ++ x :: suf ∧ pre.length = ii.toNat := ⟨l.take ii.toNat, l[ii.toNat]'(by omega), l.drop (ii.toNat + 1), by simp, by simp; omega⟩
 obtain ⟨y0, t0, hy0⟩ : ∃ y0 t0, l = y0 :: t0 := List.exists_cons_of_ne_nil (by intro e; rw [e] at d1; simp at d1)
 have hi : At ii pre.length := by unfold At; omega
 obtain ⟨m, i3, h3, k3, w3, r3, r3'⟩ := kb 9 (by decide) (by decide) w2 h2
 obtain ⟨va, ia, ha, kA, wa, ra⟩ := ka w3 h3
 obtain ⟨vc, ic, hc, kC, wc, rc⟩ := kc w3 h3
 simp only [List.mem_cons, List.not_mem_nil, or_false] at ra rc
 have hxx := hl.2 x (by rw [hls]; simp)
 have hyy := hl.2 y0 (by rw [hy0]; simp)
 have hm : ∀ y ∈ l, (-1 ≤ y.tag ∧ y.tag ≤ 256) ∧ VL 6 y.body := fun y hy => ⟨(hl.2 y hy).1, (hl.2 y hy).2.mono (by decide)⟩
 have hset : ∀ y : Ext, (-1 ≤ y.tag ∧ y.tag ≤ 256) → VL 6 y.body → YL (pre ++ y :: suf) := fun y h1 h2 => by
  refine ⟨by rw [hls] at hl5; simp at hl5 ⊢; omega, fun z hz => ?_⟩
  rcases List.mem_append.1 hz with e | e
  ·exact hm z (by rw [hls]; simp [e])
  rcases List.mem_cons.1 e with e | e
  ·rw [e]; exact ⟨h1, h2⟩
  ·exact hm z (by rw [hls]; simp [e])
 obtain ⟨ix, hix⟩ := nm (pre.length * 2)
 obtain ⟨jx, hjx⟩ := nm (([] : List Ext).length * 2)
 obtain ⟨e1, he1⟩ := nm (row fI x.body)
 obtain ⟨e2, he2⟩ := nm (row fI y0.body)
 obtain ⟨e3, he3⟩ := nm (row fI (x.body ++ [vc]))
 obtain ⟨ea, hea⟩ := nm (row fExt (pre ++ ⟨va, x.body⟩ :: suf))
 obtain ⟨ec, hec⟩ := nm (row fExt (pre ++ ⟨x.tag, x.body ++ [vc]⟩ :: suf))
 obtain ⟨ed, hed⟩ := nm (row fExt (pre ++ ⟨x.tag, [1, 2, 3, 4, 5]⟩ :: suf))
 obtain ⟨ef, hef⟩ := nm (row fExt (l ++ [⟨y0.tag, []⟩]))
 have p0 : at' 2 el ii = some (ix, [.int .i64 x.tag, .row () e1]) := by rw [hix, he1]; exact F.get hi hel hls (fun _ => rfl) (by decide)
 have p1 : at' 2 el 0 = some (jx, [.int .i64 y0.tag, .row () e2]) := by rw [hjx, he2]; exact F.get (pre := []) at0 hel hy0 (fun _ => rfl) (by decide)
 rw [← hn]
 rw [k2]; cbv
 rw [k3]; cbv
 refine both (fun d2 => ?_) (fun d2 => ?_) <;> rw [d2] <;> cbv
 ·have q : setFlat el (ix + 0) [.int .i64 va] = some ea := by rw [hel, hls, hea]; exact set_fld (fun _ => rfl) (by decide) rfl hix
  rw [kA]; cbv
  rw [p0]; cbv
  first | rw [show set el (ix + 0) [.int .i64 va] = some ea by rw [F.set]; exact q] | rw [show set el (Nat.add ix 0) [.int .i64 va] = some ea by rw [F.set]; exact q] | rw [show set el ix [.int .i64 va] = some ea by rw [F.set]; exact q]
  cbv
  rw [hQ]; cbv
  exact hW' ea ia ha _ hea wa (hset _ (by simp only; omega) (hxx.2.mono (by decide)))
 refine both (fun d3 => ?_) (fun d3 => ?_) <;> rw [d3] <;> cbv
 ·have q : setFlat el (ix + 1) [.row () e3] = some ec := by rw [hel, hls, hec, he3]; exact set_fld (fun _ => rfl) (by decide) rfl hix
  have s1 : allS e1 = true := F.scal he1 (fun _ => rfl)
  have s2 : allS [[.int .i64 vc]] = true := by rw [F.allS]; rfl
  have s3 : app 1 e1 [[.int .i64 vc]] = some e3 := by rw [he3]; exact F.push (f := fI) he1 (fun _ => rfl) rfl (by have := hxx.2.1; omega)
  rw [p0]; cbv
  rw [kC]; cbv
  repeat (first | (rw [s1]; cbv) | (rw [s2]; cbv) | (rw [s3]; cbv) | (rw [p0]; cbv))
  first | rw [show set el (ix + 1) [.row () e3] = some ec by rw [F.set]; exact q] | rw [show set el (Nat.add ix 1) [.row () e3] = some ec by rw [F.set]; exact q]
  cbv
  rw [hQ]; cbv
  exact hW' ec ic hc _ hec wc (hset _ hxx.1 (hxx.2.push (by omega) (by omega)))
 refine both (fun d4 => ?_) (fun d4 => ?_) <;> rw [d4] <;> cbv
 ·have q : setFlat el (ix + 1) [.row () [[.int .i64 1], [.int .i64 2], [.int .i64 3], [.int .i64 4], [.int .i64 5]]] = some ed := by rw [hel, hls, hed]; exact set_fld (fun _ => rfl) (by decide) rfl hix
  rw [p0]; cbv
  first | rw [show set el (ix + 1) [.row () [[.int .i64 1], [.int .i64 2], [.int .i64 3], [.int .i64 4], [.int .i64 5]]] = some ed by rw [F.set]; exact q] | rw [show set el (Nat.add ix 1) [.row () [[.int .i64 1], [.int .i64 2], [.int .i64 3], [.int .i64 4], [.int .i64 5]]] = some ed by rw [F.set]; exact q]
  cbv
  rw [hQ]; cbv
  exact hW' ed i3 h3 _ hed w3 (hset _ hxx.1 ⟨by simp, fun y hy => by simp at hy; omega⟩)
 refine both (fun d5 => ?_) (fun d5 => ?_) <;> rw [d5] <;> cbv
 ·have s1 : allS [[.int .i64 y0.tag, .row () []]] = false := by rw [F.allS]; rfl
  have s2 : app 2 el [[.int .i64 y0.tag, .row () []]] = some ef := by rw [hef]; exact F.push (f := fExt) hel (fun _ => rfl) rfl (by omega)
  rw [p1]; cbv
  rw [s1]; cbv
  rw [s2]; cbv
  rw [hQ]; cbv
  exact hW' ef i3 h3 _ hef w3 ⟨by simp; omega, fun y hy => by
   rcases List.mem_append.1 hy with e | e
   ·exact hm y e
   ·simp at e; rw [e]; exact ⟨hyy.1, by simp [VL]⟩⟩
 ·rw [hQ]; cbv
  exact hW' el i3 h3 l hel w3 hl.yl
theorem dr3251 {B : List Int} {i : Int} (w : CW B i) (h : Int) : ∃ r, fix Tb md 3251 [sCur (row fU B) (.sp 0 0) i h] = some r ∧ ∃ l x i' h', r = ⟨[sHello (row fI l) (row fExt x) (.ow false) (.ow false)], [], some (vCur (row fU B) i' h')⟩ ∧ CW B i' ∧ VL 5 l ∧ YL x := by
 obtain ⟨_, k1, l, x, i1, h1, rfl, w1, hl, hne, hx⟩ := dr3247 w h
 obtain ⟨n, i2, h2, k2, w2, r2, r2'⟩ := below_dr w1 h1 6 (by decide) (by decide)
 obtain ⟨_, k3, l', i3, h3, rfl, w3, hl'⟩ := dr3315 w2 h2
 obtain ⟨_, k4, x', i4, h4, rfl, w4, hx'⟩ := dr3316 w2 h2
 obtain ⟨eb, heb⟩ := nm (row fU B)
 obtain ⟨el, hel⟩ := nm (row fI l)
 obtain ⟨ex, hex⟩ := nm (row fExt x)
 obtain ⟨el', hel'⟩ := nm (row fI l')
 obtain ⟨ex', hex'⟩ := nm (row fExt x')
 rw [← heb] at k1 k2 k3 k4 ⊢
 rw [← hel, ← hex] at k1
 rw [← hel'] at k3
 rw [← hex'] at k4
 refine fix_bxE (fn := ir3251) tb_3251 rfl rfl rfl (by decide) ?_; intro Q W hW hQ; simp only [List.map_nil, ir3251]
 have hW' : ∀ el ex i' h' l x, el = row fI l → ex = row fExt x → CW B i' → VL 5 l → YL x → W (some ⟨[sHello el ex (.ow false) (.ow false)], [], some (vCur eb i' h')⟩) := fun el ex i' h' l x e1 e2 a b c => hW _ ⟨l, x, i', h', by rw [e1, e2], a, b, c⟩
 clear hW
 intro add sub mul arith eq ne lt le gt ge neg conv mn mx not beq len at' ln bd cut app allS isNil mks set o hP F ho
 rw [← ho] at k1 k2 k3 k4
 cbv
 rw [k1]; cbv
 rw [k2]; cbv
 refine both (fun d => ?_) (fun d => ?_) <;> rw [d] <;> cbv
 ·rw [k3]; cbv
  rw [hQ]; cbv
  exact hW' el' ex i3 h3 l' x hel' hex w3 hl' hx.yl
 refine both (fun d => ?_) (fun d => ?_) <;> rw [d] <;> cbv
 ·rw [k4]; cbv
  rw [hQ]; cbv
  exact hW' el ex' i4 h4 l x' hel hex' w4 (hl.mono (by decide)) hx'
 ·rw [hQ]; cbv
  exact hW' el ex i2 h2 l x hel hex w2 (hl.mono (by decide)) hx.yl
theorem ok3250 (c : Cur) (q : c.Ok) (n : Int) (h0 : 0 < n) (h1 : n ≤ 256) : fix Tb md 3250 [sCur (row fU c.b) (.sp 0 0) c.ii c.h, I n] = some ⟨[B (onceV n c)], [], some (vCur (row fU c.b) (byteC c).ii (byteC c).h)⟩ := by
 have k1 := ok3317 c q n h0 h1
 obtain ⟨y, hy⟩ := nm (belowV n c)
 obtain ⟨z, hz⟩ := nm (onceV n c)
 have hz2 : z = decide (y = 0) := by rw [hz, hy]; rfl
 obtain ⟨i, hi⟩ := nm (c.ii)
 obtain ⟨h, hh⟩ := nm (c.h)
 obtain ⟨i', hi'⟩ := nm ((byteC c).ii)
 obtain ⟨h', hh'⟩ := nm ((byteC c).h)
 rw [← hy, ← hi, ← hh, ← hi', ← hh'] at k1
 rw [← hz, ← hi, ← hh, ← hi', ← hh']
 generalize hr : (⟨_, [], some _⟩ : Ret) = r
 obtain ⟨eb, heb⟩ := nm (row fU c.b)
 rw [← heb] at k1 hr ⊢
 refine fix_bx (fn := ir3250) tb_3250 rfl rfl rfl (by decide) ?_; intro Q hQ; simp only [List.map_cons, List.map_nil, ir3250]
 intro add sub mul arith eq ne lt le gt ge neg conv mn mx not beq len at' ln bd cut app allS isNil mks set o hP F ho
 have g3 : eq y 0 = z := by rw [F.eq, hz2]
 rw [← ho] at k1
 cbv
 rw [k1]; cbv
 rw [g3, hQ]; cbv
 exact congrArg some hr
theorem CW.new {B : List Int} (h : B.length ≤ 1048576) : CW B 0 := ⟨0, rfl, by omega, h⟩
theorem once_dr {Bs : List Int} {i : Int} (w : CW Bs i) (h n : Int) (h0 : 0 < n) (h1 : n ≤ 256) : ∃ (x : Bool) (i' h' : Int), fix Tb md 3250 [sCur (row fU Bs) (.sp 0 0) i h, I n] = some ⟨[B x], [], some (vCur (row fU Bs) i' h')⟩ ∧ CW Bs i' := by
 obtain ⟨c, q, rfl, rfl, rfl⟩ := w.cur h
 exact ⟨_, _, _, ok3250 c q n h0 h1, (byteC_ok q).cw⟩
theorem dr318 (B : List Int) (hl : B.length ≤ 1048576) : ∃ r, fix Tb md 318 [R (row fU B) (.sp 0 0)] = some r ∧ ∃ l x, r = ⟨[sHello (row fI l) (row fExt x) (.ow false) (.ow false)], [], none⟩ ∧ VL 5 l ∧ YL x := by
 have k1 := ok246 B hl
 obtain ⟨h, hh⟩ := nm (newC B).h
 rw [← hh] at k1
 obtain ⟨_, k2, l, x, i1, h1, rfl, w1, hl', hx⟩ := dr3251 (CW.new hl) h
 obtain ⟨eb, heb⟩ := nm (row fU B)
 obtain ⟨el, hel⟩ := nm (row fI l)
 obtain ⟨ex, hex⟩ := nm (row fExt x)
 rw [← heb] at k1 k2 ⊢
 rw [← hel, ← hex] at k2
 refine fix_fnE (fn := ir318) tb_318 rfl rfl (by decide) rfl ?_; intro Q W hW hQ
 simp only [shutArgs, shutS, List.map_cons, List.map_nil, ir318, shut_in (show inFl (.sp 0 0) = true from rfl), List.head?_nil, reduceCtorEq, if_false] at hQ ⊢
 have hW' : W (some ⟨[sHello el ex (.ow false) (.ow false)], [], none⟩) := hW _ ⟨l, x, by rw [hel, hex], hl', hx⟩
 clear hW
 intro add sub mul arith eq ne lt le gt ge neg conv mn mx not beq len at' ln bd cut app allS isNil mks set o hP F ho
 rw [← ho] at k1 k2
 cbv
 rw [k1]; cbv
 rw [k2]; cbv
 rw [hQ]; cbv
 exact hW'
theorem dr193 (B : List Int) (hl : B.length ≤ 1048576) : ∃ r, fix Tb md 193 [R (row fU B) (.sp 0 0)] = some r ∧ ∃ l x, r = ⟨[sHello (row fI l) (row fExt x) (.ow false) (.ow false)], [], none⟩ ∧ VL 5 l ∧ YL x := by
 obtain ⟨_, k1, l, x, rfl, hl', hx⟩ := dr318 B hl
 obtain ⟨eb, heb⟩ := nm (row fU B)
 obtain ⟨el, hel⟩ := nm (row fI l)
 obtain ⟨ex, hex⟩ := nm (row fExt x)
 rw [← heb] at k1 ⊢
 rw [← hel, ← hex] at k1
 refine fix_fnE (fn := ir193) tb_193 rfl rfl (by decide) rfl ?_; intro Q W hW hQ
 simp only [shutArgs, shutS, List.map_cons, List.map_nil, ir193, shut_in (show inFl (.sp 0 0) = true from rfl), List.head?_nil, reduceCtorEq, if_false] at hQ ⊢
 have hW' : W (some ⟨[sHello el ex (.ow false) (.ow false)], [], none⟩) := hW _ ⟨l, x, by rw [hel, hex], hl', hx⟩
 clear hW
 intro add sub mul arith eq ne lt le gt ge neg conv mn mx not beq len at' ln bd cut app allS isNil mks set o hP F ho
 rw [← ho] at k1
 cbv
 rw [k1]; cbv
 rw [hQ]; cbv
 exact hW'
theorem ok162 (h : Hello) (mh : h.Mid) {f0 f1 : Fl} (q0 : inFl f0 = true) (q1 : inFl f1 = true) : fix Tb md 162 [sHello (row fI h.versions) (row fExt h.exts) f0 f1] = some ⟨[R (row fI (helB h)) (.ow false)], [], none⟩ := by
 have mh' := mh
 unfold Hello.Mid at mh'
 have hvl := mh'.1
 have hxl := mh'.2.1
 have wh : ∀ y ∈ h.exts, y.body.length ≤ 1099511627776 := fun y hy => Nat.le_trans (show y.body.length ≤ 1073741824 from mh'.2.2 y hy) (by decide)
 have k1 := ok142 h (by omega) (by omega) wh (f0 := .sp 0 0) (f1 := .sp 0 1) rfl rfl
 cases hi : isHel h with
 | false =>
  rw [hi] at k1
  have hb : helB h = [] := by unfold helB; rw [hi]; rfl
  rw [hb]
  generalize hr : (⟨_, [], none⟩ : Ret) = r
  obtain ⟨dv, hdv⟩ := nm (row fI h.versions)
  obtain ⟨dx, hdx⟩ := nm (row fExt h.exts)
  rw [← hdv, ← hdx] at k1 ⊢
  refine fix_fn2 (fn := ir162) tb_162 rfl rfl (by decide) rfl ?_; intro Q hQ; simp only [shutArgs, shutS, List.map_cons, List.map_nil, ir162, shut_in q0, shut_in q1, List.head?_nil, reduceCtorEq, if_false, sExt, sHello, sAnswer, sEdit, sDeal, sBox, sDialed, sKnown]
  intro add sub mul arith eq ne lt le gt ge neg conv mn mx not beq len at' ln bd cut app allS isNil mks set o hP F ho
  rw [← ho] at k1
  cbv
  rw [k1]; cbv
  rw [show not false = true by rw [F.not]; rfl]; cbv
  rw [hQ]; cbv
  exact congrArg some hr
 | true =>
  rw [hi] at k1
  have hok := isHel_ex hi
  have hlen := encX_len hok
  have hb : helB h = (h.versions.length : Int) :: h.versions ++ encX h.exts := by unfold helB; rw [hi]; rfl
  rw [hb]
  obtain ⟨n, hn⟩ := nm ((h.versions.length : Int))
  obtain ⟨et, het⟩ := nm (row fI (n :: h.versions ++ encX h.exts))
  rw [← hn, ← het]
  generalize hr : (⟨_, [], none⟩ : Ret) = r
  obtain ⟨dv, hdv⟩ := nm (row fI h.versions)
  obtain ⟨dx, hdx⟩ := nm (row fExt h.exts)
  rw [← hdv, ← hdx] at k1 ⊢
  obtain ⟨ex, hex⟩ := nm (row fI (encX h.exts))
  refine fix_fn2 (fn := ir162) tb_162 rfl rfl (by decide) rfl ?_; intro Q hQ; simp only [shutArgs, shutS, List.map_cons, List.map_nil, ir162, shut_in q0, shut_in q1, List.head?_nil, reduceCtorEq, if_false, sExt, sHello, sAnswer, sEdit, sDeal, sBox, sDialed, sKnown]
  intro add sub mul arith eq ne lt le gt ge neg conv mn mx not beq len at' ln bd cut app allS isNil mks set o hP F ho
  rw [← ho] at k1
  have c2 : o 293 [R dx (.sp 0 0)] = some ⟨[R ex (.ow false), B true], [], none⟩ := by rw [ho, hdx, hex]; exact ok293 _ hok rfl
  have g1 : len dv = n := by rw [hn]; exact F.len_at hdv
  cbv
  rw [k1]; cbv
  rw [show not true = false by rw [F.not]; rfl]; cbv
  rw [c2]; cbv
  rw [g1]; cbv
  obtain ⟨e1, he1⟩ := nm (row fI (n :: h.versions))
  have p1 : app 1 [[.int .i64 n]] dv = some e1 := by rw [he1]; exact F.app' (f := fI) (k := 1) (e1 := [[.int .i64 n]]) (l1 := [n]) rfl hdv (fun _ => rfl) (by simp; omega)
  have p2 : app 1 e1 ex = some et := by rw [het]; exact F.app' (f := fI) (k := 1) he1 hex (fun _ => rfl) (by simp; omega)
  have p3 : allS dv = true := F.scal hdv (fun _ => rfl)
  have p4 : allS ex = true := F.scal hex (fun _ => rfl)
  rw [p3]; cbv
  rw [p1]; cbv
  rw [p4]; cbv
  rw [p2]; cbv
  rw [hQ]; cbv
  exact congrArg some hr
def gEx (x : Ext) : Bool := inR x.tag 0 255 && !decide (4 < x.body.length) && bytes x.body
theorem exOk_iff : ∀ {suf pre : List Ext}, exOk pre suf = true ↔ (∀ x ∈ suf, gEx x = true ∧ ∀ y ∈ pre, y.tag ≠ x.tag) ∧ suf.Pairwise (fun x y => x.tag ≠ y.tag)
 | [], pre => by simp [exOk]
 | x :: suf, pre => by
  have hp : pre.any (tagP x.tag) = false ↔ ∀ y ∈ pre, y.tag ≠ x.tag := by simp [List.any_eq_false, tagP]
  unfold exOk
  simp only [Bool.and_eq_true, Bool.not_eq_true', exOk_iff (suf := suf) (pre := pre ++ [x]), List.pairwise_cons, hp]
  constructor
  ·rintro ⟨⟨⟨⟨a, b⟩, c⟩, d⟩, e, f⟩
   refine ⟨?_, fun y hy => ?_, f⟩
   ·intro z hz
    rcases List.mem_cons.1 hz with rfl | hz
    ·exact ⟨by unfold gEx; rw [a, b, c]; rfl, d⟩
    ·exact ⟨(e z hz).1, fun y hy => (e z hz).2 y (by simp [hy])⟩
   ·exact (e y hy).2 x (by simp)
  ·rintro ⟨h1, h2, h3⟩
   have hx := h1 x (by simp)
   unfold gEx at hx
   simp only [Bool.and_eq_true, Bool.not_eq_true'] at hx
   refine ⟨⟨⟨hx.1.1, hx.1.2⟩, hx.2⟩, fun z hz => ⟨(h1 z (by simp [hz])).1, fun y hy => ?_⟩, h3⟩
   rcases List.mem_append.1 hy with hy | hy
   ·exact (h1 z (by simp [hz])).2 y hy
   ·simp at hy; subst hy; exact h2 z hz
theorem areEx_iff {l : List Ext} : areEx l = true ↔ (∀ x ∈ l, gEx x = true) ∧ l.Pairwise (fun x y => x.tag ≠ y.tag) ∧ l.length ≤ 6 := by
 unfold areEx
 rw [Bool.and_eq_true, exOk_iff, decide_eq_true_eq]
 constructor
 ·rintro ⟨⟨h1, h2⟩, h3⟩; exact ⟨fun x hx => (h1 x hx).1, h2, h3⟩
 ·rintro ⟨h1, h2, h3⟩; exact ⟨⟨fun x hx => ⟨h1 x hx, by simp⟩, h2⟩, h3⟩
theorem areEx_sel {l : List Ext} {p : Ext → Bool} (h : areEx l = true) : areEx (sel p idE l) = true := by
 rw [sel_idE]
 obtain ⟨h1, h2, h3⟩ := areEx_iff.1 h
 exact areEx_iff.2 ⟨fun x hx => h1 x (List.mem_filter.1 hx).1, h2.filter _, Nat.le_trans (List.length_filter_le _ _) h3⟩
theorem bestC_in {a b : List Int} (h : bestC a b ≠ 0) : 1 ≤ bestC a b ∧ bestC a b ≤ 9 ∧ hasI b (bestC a b) = true ∧ hasI a (bestC a b) = true := by
 unfold bestC at h ⊢
 split at h
 ·rename_i hv
  rw [if_pos hv]
  rw [Bool.and_eq_true] at hv
  have hne : comm a b ≠ [] := fun e => by rw [e] at h; exact h rfl
  have hm : (comm a b).getLastD 0 ∈ comm a b := by
   rw [List.getLastD_eq_getLast?, List.getLast?_eq_some_getLast hne]
   exact List.getLast_mem hne
  obtain ⟨m, hmm⟩ : ∃ m, m = (comm a b).getLastD 0 := ⟨_, rfl⟩
  rw [← hmm] at hm ⊢
  have h1 := (comm_asc (b := b) hv.1).2 _ hm
  have h2 : m ∈ a ∧ hasI b m = true := by
   unfold comm at hm
   rw [sel_idI, List.mem_filter] at hm
   exact hm
  refine ⟨h1.1, h1.2, h2.2, ?_⟩
  unfold hasI
  rw [List.any_eq_true]
  exact ⟨_, h2.1, by simp⟩
 ·exact absurd rfl h
theorem caV_ans {vs tg : List Int} {h : Hello} (q : caOk vs h = true) : isAns (caV vs tg h).version (caV vs tg h).exts = true := by
 unfold caV
 rw [if_pos q]
 unfold caOk isHel at q
 simp only [Bool.and_eq_true, Bool.not_eq_true', decide_eq_false_iff_not] at q
 obtain ⟨⟨_, hx⟩, hb⟩ := q
 have := bestC_in hb
 unfold isAns
 rw [Bool.and_eq_true]
 refine ⟨?_, areEx_sel (areEx_sel hx)⟩
 unfold inR
 simp; omega
theorem caOk_hel {vs : List Int} {h : Hello} (q : caOk vs h = true) : isHel h = true := by
 unfold caOk at q; simp only [Bool.and_eq_true] at q; exact q.1
theorem ansB_ne {a : Answer} (q : isAns a.version a.exts = true) : ansB a ≠ [] := by unfold ansB; rw [if_pos q]; simp
theorem find_none_of {l : List Ext} {t : Int} (h : ∀ e ∈ l, e.tag ≠ t) : extOf l t < 0 := by
 rcases extOf_find l t with ⟨_, e⟩ | ⟨pre, d, suf, h1, _, _, h4⟩
 ·rw [e]; decide
 ·have := List.find?_some h4
  unfold tagP at this
  exact absurd (by simpa using this) (h d (by rw [h1]; simp))
theorem find_some_of {l : List Ext} {e : Ext} (h : e ∈ l) : ¬ extOf l e.tag < 0 := by
 rcases extOf_find l e.tag with ⟨h1, _⟩ | ⟨pre, d, suf, _, _, h3, _⟩
 ·rw [List.find?_eq_none] at h1
  exact absurd (by simp [tagP]) (h1 e h)
 ·omega
def isBox (limit : Int) (drops strips : List Int) : Bool := inR limit 0 9 && decide (drops.length ≤ 6) && decide (strips.length ≤ 6) && bytes drops && bytes strips
theorem ok68 (limit : Int) (drops strips : List Int) (lists : Bool) (hd : drops.length ≤ 1099511627776) (hs : strips.length ≤ 1099511627776) {f0 f1 : Fl} (h0 : inFl f0 = true) (h1 : inFl f1 = true) :
  fix Tb md 68 [⟨.agg, [⟨.int .i64 limit, .sc⟩, ⟨.row () (row fI drops), f0⟩, ⟨.row () (row fI strips), f1⟩, ⟨.bool lists, .sc⟩]⟩] = some ⟨[B (isBox limit drops strips)], [], none⟩ := by
 refine fix_fn (fn := ir68) tb_68 rfl rfl (by decide) rfl ?_; simp only [shutArgs, shutS, List.map_cons, List.map_nil, ir68, shut_in h0, shut_in h1, List.head?_nil, reduceCtorEq, if_false, sExt, sHello, sAnswer, sEdit, sDeal, sBox, sDialed, sKnown]
 generalize hr : (⟨_, [], none⟩ : Ret) = r
 obtain ⟨ed, hed⟩ := nm (row fI drops)
 obtain ⟨es, hes⟩ := nm (row fI strips)
 rw [← hed, ← hes]
 obtain ⟨v1, hv1⟩ := nm (inR limit 0 9)
 obtain ⟨v2, hv2⟩ := nm (bytes drops)
 obtain ⟨v3, hv3⟩ := nm (bytes strips)
 intro add sub mul arith eq ne lt le gt ge neg conv mn mx not beq len at' ln bd cut app allS isNil mks set o hP F ho
 have ld := F.len_at hed
 have ls := F.len_at hes
 have c1 : o 230 [I limit, I 0, I 9] = some ⟨[B v1], [], none⟩ := by rw [ho, hv1]; exact ok230 ..
 have c2 : o 231 [R ed (.sp 0 0)] = some ⟨[B v2], [], none⟩ := by rw [ho, hv2, hed]; exact ok231 _ hd rfl
 have c3 : o 231 [R es (.sp 0 0)] = some ⟨[B v3], [], none⟩ := by rw [ho, hv3, hes]; exact ok231 _ hs rfl
 cbv
 repeat' (first | (rw [c1]; cbv) | (rw [c2]; cbv) | (rw [c3]; cbv) | (refine both (fun c => ?_) (fun c => ?_) <;> (try rw [c]) <;> (try cbv)))
 all_goals (clear hP c1 c2 c3 ho; unfold At at ld ls; try simp only [F.eq, F.ne, F.le, F.lt, F.ge, F.gt, F.not, F.beq, ld, ls] at *; clear F; subst hr)
 all_goals (simp_all [isBox] <;> (intros; omega))
def isClear (limit : Int) (drops strips : List Int) (lists : Bool) : Bool := decide (limit = 0) && drops.isEmpty && strips.isEmpty && !lists
theorem ok57 (limit : Int) (drops strips : List Int) (lists : Bool) (hd : drops.length ≤ 1099511627776) (hs : strips.length ≤ 1099511627776) {f0 f1 : Fl} (h0 : inFl f0 = true) (h1 : inFl f1 = true) :
  fix Tb md 57 [⟨.agg, [⟨.int .i64 limit, .sc⟩, ⟨.row () (row fI drops), f0⟩, ⟨.row () (row fI strips), f1⟩, ⟨.bool lists, .sc⟩]⟩] = some ⟨[B (isClear limit drops strips lists)], [], none⟩ := by
 refine fix_fn (fn := ir57) tb_57 rfl rfl (by decide) rfl ?_; simp only [shutArgs, shutS, List.map_cons, List.map_nil, ir57, shut_in h0, shut_in h1, List.head?_nil, reduceCtorEq, if_false, sExt, sHello, sAnswer, sEdit, sDeal, sBox, sDialed, sKnown]
 generalize hr : (⟨_, [], none⟩ : Ret) = r
 obtain ⟨ed, hed⟩ := nm (row fI drops)
 obtain ⟨es, hes⟩ := nm (row fI strips)
 rw [← hed, ← hes]
 obtain ⟨v1, hv1⟩ := nm (isBox limit drops strips)
 intro add sub mul arith eq ne lt le gt ge neg conv mn mx not beq len at' ln bd cut app allS isNil mks set o hP F ho
 have ld := F.len_at hed
 have ls := F.len_at hes
 have c1 : o 68 [⟨.agg, [⟨.int .i64 limit, .sc⟩, ⟨.row () ed, .sp 0 1⟩, ⟨.row () es, .sp 0 2⟩, ⟨.bool lists, .sc⟩]⟩] = some ⟨[B v1], [], none⟩ := by rw [ho, hv1, hed, hes]; exact ok68 _ _ _ _ hd hs rfl rfl
 cbv
 repeat' (first | (rw [c1]; cbv) | (refine both (fun c => ?_) (fun c => ?_) <;> (try rw [c]) <;> (try cbv)))
 all_goals (clear hP c1 ho; unfold At at ld ls; simp only [F.eq, F.not, ld, ls] at *; clear F; subst hr)
 all_goals (simp_all [isClear])
 intro e1 e2 e3
 subst e1 e2 e3
 simp [isBox, inR, bytes] at hv1
def clearB (b : Box) : Bool := isClear b.limit b.drops b.strips b.lists
def isCP (l : List Box) : Bool := l.all clearB && decide (l.length ≤ 4)
theorem ok102 (l : List Box) (w : l.length ≤ 1073741824 ∧ ∀ y ∈ l, y.Mid) {f0 : Fl} (h0 : inFl f0 = true) : fix Tb md 102 [R (row fBox l) f0] = some ⟨[B (isCP l)], [], none⟩ := by
 have w1 := w.1
 refine fix_fn (fn := ir102) tb_102 rfl rfl (by decide) rfl ?_; simp only [shutArgs, shutS, List.map_cons, List.map_nil, ir102, shut_in h0, List.head?_nil, reduceCtorEq, if_false, sExt, sHello, sAnswer, sEdit, sDeal, sBox, sDialed, sKnown]
 generalize hr : (⟨_, [], none⟩ : Ret) = r
 obtain ⟨ea, hea⟩ := nm (row fBox l)
 rw [← hea]
 intro add sub mul arith eq ne lt le gt ge neg conv mn mx not beq len at' ln bd cut app allS isNil mks set o hP F ho
 have la := F.len_at hea
 cbv
 refine loop_ind hP (σ := List Box × List Box × Int) (fun s => [(0, R ea .sh), (2, B false), (3, I s.2.2)]) (fun s => At s.2.2 s.1.length ∧ l = s.1 ++ s.2.1 ∧ s.1.all clearB = true) (fun s => s.2.1.length) ([], l, 0) rfl ⟨rfl, rfl, rfl⟩ ?_
 rintro ⟨pre, suf, i⟩ ⟨hi, hl', hb⟩ ih
 simp only at hi hl' hb ih
 cbv
 cases suf with
 | nil =>
  rw [F.lt_f hi la (by simp [hl'])]; cbv
  have h12 : le (len ea) 4 = decide (l.length ≤ 4) := by unfold At at la; rw [F.le, la]; simp; omega
  have hall : l.all clearB = true := by rw [hl', List.append_nil]; exact hb
  rw [h12, ← hr, isCP, hall, Bool.true_and]
 | cons x suf =>
  rw [F.lt_t hi la (by simp [hl'])]; cbv
  obtain ⟨ix, hix⟩ := nm (pre.length * 4)
  obtain ⟨e1, he1⟩ := nm (row fI x.drops)
  obtain ⟨e2, he2⟩ := nm (row fI x.strips)
  rw [show at' 4 ea i = some (ix, [.int .i64 x.limit, .row () e1, .row () e2, .bool x.lists]) by rw [hix, he1, he2]; exact F.get hi hea hl' (fun _ => rfl) (by decide)]; cbv
  obtain ⟨v, hv⟩ := nm (clearB x)
  have m := w.2 x (by rw [hl']; simp)
  unfold Box.Mid at m
  rw [show o 57 [sBox x.limit e1 e2 x.lists (.sp 0 1) (.sp 0 2)] = some ⟨[B v], [], none⟩ by rw [ho, hv, he1, he2]; exact ok57 _ _ _ _ (by omega) (by omega) rfl rfl]; cbv
  refine both (fun c => ?_) (fun c => ?_) <;> rw [c] <;> cbv
  ·rw [← hr, hl']
   rw [F.not] at c
   simp [isCP] at *
   simp_all
  ·rw [F.not] at c
   simp at c
   refine ih (pre ++ [x], suf, add .i64 i 1) ⟨at_len (F.inc hi (by simp [hl'] at w1; omega)) (by simp), by simp [hl'], ?_⟩ (by simp)
   rw [List.all_append, hb]
   simp [← hv, c]
end Go.Vm
