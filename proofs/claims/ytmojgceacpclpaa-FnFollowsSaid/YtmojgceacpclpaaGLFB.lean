/- What the functions answer. -/
import Derived.Test.YtmojgceacpclpaaGLTab
import Derived.Test.YtmojgceacpclpaaGLFA
set_option maxHeartbeats 4000000
set_option maxRecDepth 10000
set_option linter.unusedVariables false
set_option linter.unusedSimpArgs false
namespace Go.Vm
theorem ok3317 (c : Cur) (q : c.Ok) (n : Int) (h0 : 0 < n) (h1 : n ≤ 256) : fix Tb md 3317 [sCur (row fU c.b) (.sp 0 0) c.ii c.h, I n] = some ⟨[I (belowV n c)], [], some (vCur (row fU c.b) (byteC c).ii (byteC c).h)⟩ := by
 have k1 := ok3361 c q
 obtain ⟨x, hx⟩ := nm (byteV c)
 obtain ⟨y, hy⟩ := nm (belowV n c)
 have hy2 : y = Int.tmod x n := by rw [hy, hx]; rfl
 obtain ⟨i, hi⟩ := nm (c.ii)
 obtain ⟨h, hh⟩ := nm (c.h)
 obtain ⟨i', hi'⟩ := nm ((byteC c).ii)
 obtain ⟨h', hh'⟩ := nm ((byteC c).h)
 rw [← hx, ← hi, ← hh, ← hi', ← hh'] at k1
 rw [← hy, ← hi, ← hh, ← hi', ← hh']
 generalize hr : (⟨_, [], some _⟩ : Ret) = r
 obtain ⟨eb, heb⟩ := nm (row fU c.b)
 rw [← heb] at k1 hr ⊢
 refine fix_bx (fn := ir3317) tb_3317 rfl rfl rfl (by decide) ?_; intro Q hQ; simp only [List.map_cons, List.map_nil, ir3317]
 intro add sub mul arith eq ne lt le gt ge neg conv mn mx not beq len at' ln bd cut app allS isNil mks set o hP F ho
 have g1 : le n 0 = false := by rw [F.le]; simp; omega
 have g2 : le n 256 = true := by rw [F.le]; simp; omega
 have g3 : arith .rem .i64 x n = some (.int .i64 y) := by rw [F.arith, hy2]; show (if n = 0 then none else some (VA.int .i64 (x.tmod n))) = _; rw [if_neg (by omega)]
 rw [← ho] at k1
 cbv
 rw [g1]; cbv
 rw [g2]; cbv
 rw [k1]; cbv
 rw [g3]; cbv
 rw [hQ]; cbv
 exact congrArg some hr
theorem ok3252 (c : Cur) (q : c.Ok) (l : List Int) (h0 : l ≠ []) (h1 : l.length ≤ 256) {f : Fl} (q0 : inFl f = true) : fix Tb md 3252 [sCur (row fU c.b) (.sp 0 0) c.ii c.h, R (row fI l) f] = some ⟨[I (intV l c)], [], some (vCur (row fU c.b) (byteC c).ii (byteC c).h)⟩ := by
 have hl0 : 0 < l.length := List.length_pos_iff.2 h0
 have k1 := ok3317 c q l.length (by omega) (by omega)
 have hin := belowV_in (n := l.length) (c := c) (by omega)
 obtain ⟨y, hy⟩ := nm (belowV l.length c)
 obtain ⟨z, hz⟩ := nm (intV l c)
 obtain ⟨m, hm⟩ : ∃ m : Nat, y = (m : Int) := ⟨y.toNat, by omega⟩
 have hml : m < l.length := by omega
 have hz2 : z = l.getD m 0 := by rw [hz]; unfold intV; rw [← hy, hm]; rfl
 obtain ⟨pre, x, suf, hls, hp⟩ : ∃ pre x suf, l = pre ++ x :: suf ∧ pre.length = m := ⟨l.take m, l[m], l.drop (m + 1), by simp, by simp; omega⟩
 have hzx : z = x := by rw [hz2, hls, ← hp]; simp
 obtain ⟨n, hn⟩ := nm ((l.length : Int))
 obtain ⟨i, hi⟩ := nm (c.ii)
 obtain ⟨h, hh⟩ := nm (c.h)
 obtain ⟨i', hi'⟩ := nm ((byteC c).ii)
 obtain ⟨h', hh'⟩ := nm ((byteC c).h)
 rw [← hn] at hy
 rw [← hn, ← hy, ← hi, ← hh, ← hi', ← hh'] at k1
 rw [← hz, ← hi, ← hh, ← hi', ← hh']
 generalize hr : (⟨_, [], some _⟩ : Ret) = r
 obtain ⟨eb, heb⟩ := nm (row fU c.b)
 obtain ⟨el, hel⟩ := nm (row fI l)
 obtain ⟨ix, hix⟩ := nm (pre.length * 1)
 rw [← heb] at k1 hr ⊢
 rw [← hel]
 refine fix_bx (fn := ir3252) tb_3252 rfl rfl rfl (by decide) ?_; intro Q hQ; simp only [shutS, List.map_cons, List.map_nil, ir3252, shut_in q0]
 intro add sub mul arith eq ne lt le gt ge neg conv mn mx not beq len at' ln bd cut app allS isNil mks set o hP F ho
 have g1 : len el = n := by rw [hn]; exact F.len_at hel
 have p0 : at' 1 el y = some (ix, [.int .i64 x]) := by rw [hix]; exact F.get (by rw [hp]; exact hm) hel hls (fun _ => rfl) (by decide)
 rw [← ho] at k1
 cbv
 rw [g1, k1]; cbv
 rw [p0]; cbv
 rw [← hzx, hQ]; cbv
 exact congrArg some hr
theorem ok345 (l : List Int) (n : Int) (hl : l.length ≤ 1073741824) {f0 : Fl} (q0 : inFl f0 = true) : fix Tb md 345 [R (row fI l) f0, I n] = some ⟨[R (row fI (l4V l n)) (.ow false)], [], none⟩ := by
 obtain ⟨T, hT⟩ := nm (l4V l n)
 rw [← hT]
 obtain ⟨et, het⟩ := nm (row fI T)
 rw [← het]
 generalize hr : (⟨_, [], none⟩ : Ret) = r
 obtain ⟨ea, hea⟩ := nm (row fI l)
 rw [← hea]
 refine fix_fn2 (fn := ir345) tb_345 rfl rfl (by decide) rfl ?_; intro Q hQ; simp only [shutArgs, shutS, List.map_cons, List.map_nil, ir345, shut_in q0, List.head?_nil, reduceCtorEq, if_false, sExt, sHello, sAnswer, sEdit, sDeal, sBox, sDialed, sKnown]
 intro add sub mul arith eq ne lt le gt ge neg conv mn mx not beq len at' ln bd cut app allS isNil mks set o hP F ho
 have la := F.len_at hea
 have p9 : allS [[.int .i64 n]] = true := by rw [F.allS]; rfl
 cbv
 refine loop_ind2 hP (σ := List Int × List Int × Int) (fun s => [(0, R ea .sh), (1, I n), (4, R [] .nl), (5, I s.2.2)]) (fun s => At s.2.2 s.2.1.length ∧ l = s.2.1 ++ s.1 ∧ l4Go n s.2.1 s.1 = T) (fun s => s.1.length) (l, [], 0) rfl ⟨rfl, rfl, hT.symm⟩ ?_
 intro c9 Q1 hc9 hQ1
 rintro ⟨suf, pre, i⟩ ⟨hi, hl', hb⟩ ih
 simp only at hi hl' hb ih
 have hpl : pre.length ≤ 1073741824 := by rw [hl'] at hl; simp at hl; omega
 obtain ⟨m, hm⟩ := nm (pre.length)
 obtain ⟨e1, he1⟩ := nm (row fI pre)
 obtain ⟨e2, he2⟩ := nm (row fI suf)
 obtain ⟨e3, he3⟩ := nm (row fI (pre ++ [n]))
 obtain ⟨e4, he4⟩ := nm (row fI (pre ++ [n] ++ suf))
 have b1 : bd (ln ea) i = some m := by rw [F.ln' hea, hm]; exact F.bd' hi (by rw [hl']; simp)
 have b2 : cut 1 ea m 0 = some e1 := by rw [F.cut' hea (fun _ => rfl), he1, hl', hm]; simp
 have b3 : cut 1 ea (ln ea) m = some e2 := by rw [F.cut' hea (fun _ => rfl), F.ln' hea, he2, hl', hm, List.take_length]; simp
 have p1 : allS e1 = true := F.scal he1 (fun _ => rfl)
 have p2 : app 1 [] e1 = some e1 := F.app_nil he1 (fun _ => rfl) (by omega)
 have p3 : app 1 e1 [[.int .i64 n]] = some e3 := by rw [he3]; exact F.push he1 (fun _ => rfl) rfl (by omega)
 have p4 : allS e2 = true := F.scal he2 (fun _ => rfl)
 have p5 : app 1 e3 e2 = some e4 := by rw [he4]; exact F.app' he3 he2 (fun _ => rfl) (by rw [hl'] at hl; simp at hl ⊢; omega)
 cbv
 cases suf with
 | nil =>
  rw [F.lt_f hi la (by simp [hl'])]; cbv
  rw [hQ1]; cbv
  rw [F.lt_f hi la (by simp [hl'])]; cbv
  rw [b1]; cbv
  rw [b2]; cbv
  rw [p1]; cbv
  rw [p2]; cbv
  rw [p9]; cbv
  rw [p3]; cbv
  rw [b1]; cbv
  rw [b3]; cbv
  rw [p4]; cbv
  rw [p5]; cbv
  rw [hQ]; cbv
  rw [← hr, het, ← hb, he4]; unfold l4Go; simp
 | cons x suf =>
  obtain ⟨ix, hix⟩ := nm (pre.length * 1)
  have p0 : at' 1 ea i = some (ix, [.int .i64 x]) := by rw [hix]; exact F.get hi hea hl' (fun _ => rfl) (by decide)
  have g1 : lt x n = decide (x < n) := F.lt ..
  have g2 : eq x n = decide (x = n) := F.eq ..
  unfold l4Go at hb
  rw [F.lt_t hi la (by simp [hl'])]; cbv
  rw [p0]; cbv
  refine both (fun d1 => ?_) (fun d1 => ?_) <;> rw [d1] <;> cbv
  ·rw [g1, decide_eq_true_eq] at d1
   rw [if_pos d1] at hb
   refine ih (suf, pre ++ [x], add .i64 i 1) ⟨at_len (F.inc hi (by omega)) (by simp), by rw [hl']; simp, hb⟩ (by simp)
  rw [hQ1]; cbv
  rw [g1, decide_eq_false_iff_not] at d1
  rw [if_neg d1] at hb
  rw [F.lt_t hi la (by simp [hl'])]; cbv
  rw [p0]; cbv
  refine both (fun d2 => ?_) (fun d2 => ?_) <;> rw [d2] <;> cbv
  ·rw [g2, decide_eq_true_eq] at d2
   rw [if_pos d2] at hb
   rw [show allS ea = true from F.scal hea (fun _ => rfl)]; cbv
   rw [F.app_nil hea (fun _ => rfl) (by omega)]; cbv
   rw [hQ]; cbv
   rw [← hr, het, ← hb, hea, hl']
  ·rw [g2, decide_eq_false_iff_not] at d2
   rw [if_neg d2] at hb
   rw [b1]; cbv
   rw [b2]; cbv
   rw [p1]; cbv
   rw [p2]; cbv
   rw [p9]; cbv
   rw [p3]; cbv
   rw [b1]; cbv
   rw [b3]; cbv
   rw [p4]; cbv
   rw [p5]; cbv
   rw [hQ]; cbv
   rw [← hr, het, ← hb, he4]; simp
theorem below_dr {B : List Int} {i : Int} (w : CW B i) (h n : Int) (h0 : 0 < n) (h1 : n ≤ 256) : ∃ x i' h', fix Tb md 3317 [sCur (row fU B) (.sp 0 0) i h, I n] = some ⟨[I x], [], some (vCur (row fU B) i' h')⟩ ∧ CW B i' ∧ 0 ≤ x ∧ x < n := by
 obtain ⟨c, q, rfl, rfl, rfl⟩ := w.cur h
 exact ⟨_, _, _, ok3317 c q n h0 h1, (byteC_ok q).cw, belowV_in h0⟩
theorem int_dr {B : List Int} {i : Int} (w : CW B i) (h : Int) (l : List Int) (h0 : l ≠ []) (h1 : l.length ≤ 256) {f : Fl} (q0 : inFl f = true) : ∃ x i' h', fix Tb md 3252 [sCur (row fU B) (.sp 0 0) i h, R (row fI l) f] = some ⟨[I x], [], some (vCur (row fU B) i' h')⟩ ∧ CW B i' ∧ x ∈ l := by
 obtain ⟨c, q, rfl, rfl, rfl⟩ := w.cur h
 exact ⟨_, _, _, ok3252 c q l h0 h1 q0, (byteC_ok q).cw, intV_mem h0⟩
def VL (k : Nat) (l : List Int) : Prop := l.length ≤ k ∧ ∀ x ∈ l, -1 ≤ x ∧ x ≤ 256
def XL (k : Nat) (l : List Ext) : Prop := l.length ≤ k ∧ ∀ y ∈ l, (-1 ≤ y.tag ∧ y.tag ≤ 256) ∧ VL 5 y.body
theorem l4Go_mem (n : Int) : ∀ (suf pre : List Int), ∀ x ∈ l4Go n pre suf, x = n ∨ x ∈ pre ∨ x ∈ suf
 | [], pre => by
  intro x hx
  unfold l4Go at hx
  rcases List.mem_append.1 hx with h | h
  ·exact .inr (.inl h)
  ·simp at h; exact .inl h
 | y :: suf, pre => by
  intro x hx
  unfold l4Go at hx
  split at hx
  ·rcases l4Go_mem n suf _ x hx with h | h | h
   ·exact .inl h
   ·simp at h; rcases h with h | h <;> simp [h]
   ·simp [h]
  ·split at hx
   ·rcases List.mem_append.1 hx with h | h
    ·simp [h]
    ·exact .inr (.inr h)
   ·rcases List.mem_append.1 hx with h | h
    ·simp [h]
    ·rcases List.mem_cons.1 h with h | h
     ·exact .inl h
     ·exact .inr (.inr h)
theorem l4Go_ne (n : Int) : ∀ (suf pre : List Int), l4Go n pre suf ≠ []
 | [], pre => by unfold l4Go; simp
 | y :: suf, pre => by
  unfold l4Go
  split
  ·exact l4Go_ne n suf _
  ·split <;> simp
theorem l4V_VL {k : Nat} {l : List Int} {n : Int} (h : VL k l) (h1 : -1 ≤ n) (h2 : n ≤ 256) : VL (k + 1) (l4V l n) := by
 refine ⟨by have := l4V_len l n; have := h.1; omega, fun x hx => ?_⟩
 rcases l4Go_mem n l [] x hx with e | e | e
 ·rw [e]; exact ⟨h1, h2⟩
 ·simp at e
 ·exact h.2 x e
theorem l4V_ne (l : List Int) (n : Int) : l4V l n ≠ [] := l4Go_ne n l []
theorem VL.one {n : Int} (h1 : -1 ≤ n) (h2 : n ≤ 256) : VL 1 [n] := ⟨by simp, fun x hx => by simp at hx; rw [hx]; exact ⟨h1, h2⟩⟩
theorem VL.mono {k m : Nat} {l : List Int} (h : VL k l) (hm : k ≤ m) : VL m l := ⟨Nat.le_trans h.1 hm, h.2⟩
theorem VL.push {k : Nat} {l : List Int} {n : Int} (h : VL k l) (h1 : -1 ≤ n) (h2 : n ≤ 256) : VL (k + 1) (l ++ [n]) := by
 refine ⟨by have := h.1; simp; omega, fun x hx => ?_⟩
 rcases List.mem_append.1 hx with e | e
 ·exact h.2 x e
 ·simp at e; rw [e]; exact ⟨h1, h2⟩
def YL (l : List Ext) : Prop := l.length ≤ 6 ∧ ∀ y ∈ l, (-1 ≤ y.tag ∧ y.tag ≤ 256) ∧ VL 6 y.body
theorem XL.yl {l : List Ext} (h : XL 5 l) : YL l := ⟨by have := h.1; omega, fun y hy => ⟨(h.2 y hy).1, (h.2 y hy).2.mono (by decide)⟩⟩
def BL (b : Box) : Prop := (-1 ≤ b.limit ∧ b.limit ≤ 10) ∧ VL 8 b.drops ∧ VL 8 b.strips
def NO {α : Type} (f : Fl) (l : List α) : Prop := (f = .nl ∧ l = []) ∨ f = .ow false
def PL (k : Nat) (l : List Box) : Prop := l.length ≤ k ∧ ∀ b ∈ l, BL b
theorem PL.mono {k m : Nat} {l : List Box} (h : PL k l) (hm : k ≤ m) : PL m l := ⟨Nat.le_trans h.1 hm, h.2⟩
theorem PL.push {k : Nat} {l : List Box} {x : Box} (h : PL k l) (h1 : BL x) : PL (k + 1) (l ++ [x]) := by
 refine ⟨by have := h.1; simp; omega, fun y hy => ?_⟩
 rcases List.mem_append.1 hy with e | e
 ·exact h.2 y e
 ·simp at e; rw [e]; exact h1
theorem ok3250 (c : Cur) (q : c.Ok) (n : Int) (h0 : 0 < n) (h1 : n ≤ 256) : fix Tb md 3250 [sCur (row fU c.b) (.sp 0 0) c.ii c.h, I n] = some ⟨[B (onceV n c)], [], some (vCur (row fU c.b) (byteC c).ii (byteC c).h)⟩ := by
 have k1 := ok3317 c q n h0 h1
 obtain ⟨y, hy⟩ := nm (belowV n c)
 obtain ⟨z, hz⟩ := nm (onceV n c)
 have hz2 : z = decide (y = 0) := by rw [hz, hy]; rfl
 obtain ⟨i, hi⟩ := nm (c.ii)
 obtain ⟨h, hh⟩ := nm (c.h)
 obtain ⟨i', hi'⟩ := nm ((byteC c).ii)
 obtain ⟨h', hh'⟩ := nm ((byteC c).h)
 rw [← hy, ← hi, ← hh, ← hi', ← hh'] at k1
 rw [← hz, ← hi, ← hh, ← hi', ← hh']
 generalize hr : (⟨_, [], some _⟩ : Ret) = r
 obtain ⟨eb, heb⟩ := nm (row fU c.b)
 rw [← heb] at k1 hr ⊢
 refine fix_bx (fn := ir3250) tb_3250 rfl rfl rfl (by decide) ?_; intro Q hQ; simp only [List.map_cons, List.map_nil, ir3250]
 intro add sub mul arith eq ne lt le gt ge neg conv mn mx not beq len at' ln bd cut app allS isNil mks set o hP F ho
 have g3 : eq y 0 = z := by rw [F.eq, hz2]
 rw [← ho] at k1
 cbv
 rw [k1]; cbv
 rw [g3, hQ]; cbv
 exact congrArg some hr
theorem CW.new {B : List Int} (h : B.length ≤ 1048576) : CW B 0 := ⟨0, rfl, by omega, h⟩
theorem once_dr {Bs : List Int} {i : Int} (w : CW Bs i) (h n : Int) (h0 : 0 < n) (h1 : n ≤ 256) : ∃ (x : Bool) (i' h' : Int), fix Tb md 3250 [sCur (row fU Bs) (.sp 0 0) i h, I n] = some ⟨[B x], [], some (vCur (row fU Bs) i' h')⟩ ∧ CW Bs i' := by
 obtain ⟨c, q, rfl, rfl, rfl⟩ := w.cur h
 exact ⟨_, _, _, ok3250 c q n h0 h1, (byteC_ok q).cw⟩
theorem pull {G : Prop} (h : ∀ X : Prop, X = G → X) : G := h G rfl
def flN (b : Bool) : Fl := match b with | true => .ow false | false => .nl
theorem NO.ex {α : Type} {f : Fl} {l : List α} (h : NO f l) : ∃ b, f = flN b ∧ (b = false → l = []) := by
 rcases h with ⟨rfl, e⟩ | rfl
 ·exact ⟨false, rfl, fun _ => e⟩
 ·exact ⟨true, rfl, fun e => by cases e⟩
theorem NO.of {α : Type} {b : Bool} {l : List α} (h : b = false → l = []) : NO (flN b) l := by
 cases b
 ·exact .inl ⟨rfl, h rfl⟩
 ·exact .inr rfl
theorem set_fd {α : Type} {f : α → List V} {k j : Nat} {pre suf : List α} {x y : α} {v : V} (hk : ∀ a, (f a).length = k) (hj : j < k) (hy : f y = (f x).take j ++ [v] ++ (f x).drop (j + 1)) : setFlat (row f (pre ++ x :: suf)) (pre.length * k + j) [v] = some (row f (pre ++ y :: suf)) := by
 rw [show row f (pre ++ x :: suf) = row f pre ++ f x :: row f suf by simp [row]]
 have := set_raw (k := k) [v] j (row f pre) (f x) (row f suf) (by intro a ha; obtain ⟨b, _, rfl⟩ := List.mem_map.1 ha; exact hk b) (hk x) (by simp; omega)
 rw [row_len] at this
 rw [this, show j + [v].length = j + 1 from rfl, ← hy]; simp [row]
end Go.Vm
