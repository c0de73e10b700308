/- What the functions answer. -/
import Derived.Test.YthfbmkhjanmeaaaGDTab
import Derived.Test.YthfbmkhjanmeaaaGDFA
import Derived.Test.YthfbmkhjanmeaaaGDFB
import Derived.Test.YthfbmkhjanmeaaaGDFC
import Derived.Test.YthfbmkhjanmeaaaGDFD
import Derived.Test.YthfbmkhjanmeaaaGDFE
import Derived.Test.YthfbmkhjanmeaaaGDFG
set_option maxHeartbeats 4000000
set_option maxRecDepth 10000
set_option linter.unusedVariables false
set_option linter.unusedSimpArgs false
namespace Go.Vm
theorem dr3316 {B : List Int} {i : Int} (w : CW B i) (h : Int) : ∃ r, fix Tb md 3316 [sCur (row fU B) (.sp 0 0) i h] = some r ∧ ∃ l i' h', r = ⟨[R (row fExt l) (.ow false)], [], some (vCur (row fU B) i' h')⟩ ∧ CW B i' ∧ YL l := by
 obtain ⟨_, k1, l, i1, h1, rfl, w1, hl⟩ := dr3344 w h
 obtain ⟨eb, heb⟩ := nm (row fU B)
 obtain ⟨el, hel⟩ := nm (row fExt l)
 rw [← hel] at k1
 rw [← heb] at k1 ⊢
 have hl5 : l.length ≤ 5 := hl.1
 have kb := fun (n : Int) (h0 : 0 < n) (h1 : n ≤ 256) {i : Int} (w : CW B i) (h : Int) => below_dr w h n h0 h1
 have ka := fun {i : Int} (w : CW B i) (h : Int) => int_dr w h [-1, 0, 255, 256] (by simp) (by simp) (f := .sp 1 0) rfl
 simp only [show row fI [-1, 0, 255, 256] = [[.int .i64 (-1)], [.int .i64 0], [.int .i64 255], [.int .i64 256]] from rfl] at ka
 have kc := fun {i : Int} (w : CW B i) (h : Int) => int_dr w h [-1, 255, 256] (by simp) (by simp) (f := .sp 1 0) rfl
 simp only [show row fI [-1, 255, 256] = [[.int .i64 (-1)], [.int .i64 255], [.int .i64 256]] from rfl] at kc
 rw [← heb] at kb ka kc
 refine fix_bxE (fn := ir3316) tb_3316 rfl rfl rfl (by decide) ?_; intro Q W hW hQ; simp only [List.map_nil, ir3316]
 have hW' : ∀ el i' h' l, el = row fExt l → CW B i' → YL l → W (some ⟨[R el (.ow false)], [], some (vCur eb i' h')⟩) := fun el i' h' l e a b => hW _ ⟨l, i', h', by rw [e], a, b⟩
 clear hW
 intro add sub mul arith eq ne lt le gt ge neg conv mn mx not beq len at' ln bd cut app allS isNil mks set o hP F ho
 rw [← ho] at k1 kb ka kc
 have ll := F.len_at hel
 have g1 : eq (len el) 0 = decide (l.length = 0) := F.eq_n ll (m := 0) rfl
 cbv
 rw [k1]; cbv
 refine both (fun d1 => ?_) (fun d1 => ?_) <;> rw [d1] <;> cbv
 ·rw [hQ]; cbv
  exact hW' el i1 h1 l hel w1 hl.yl
 rw [g1, decide_eq_false_iff_not] at d1
 obtain ⟨n, hn⟩ := nm (len el)
 have hn' : n = (l.length : Int) := by rw [hn]; exact ll
 obtain ⟨ii, i2, h2, k2, w2, r2, r2'⟩ := kb n (by omega) (by omega) w1 h1
 obtain ⟨pre, x, suf, hls, hp⟩ : ∃ pre x suf, l = pre ++ x :: suf ∧ pre.length = ii.toNat := ⟨l.take ii.toNat, l[ii.toNat]'(by omega), l.drop (ii.toNat + 1), by simp, by simp; omega⟩
 obtain ⟨y0, t0, hy0⟩ : ∃ y0 t0, l = y0 :: t0 := List.exists_cons_of_ne_nil (by intro e; rw [e] at d1; simp at d1)
 have hi : At ii pre.length := by unfold At; omega
 obtain ⟨m, i3, h3, k3, w3, r3, r3'⟩ := kb 9 (by decide) (by decide) w2 h2
 obtain ⟨va, ia, ha, kA, wa, ra⟩ := ka w3 h3
 obtain ⟨vc, ic, hc, kC, wc, rc⟩ := kc w3 h3
 simp only [List.mem_cons, List.not_mem_nil, or_false] at ra rc
 have hxx := hl.2 x (by rw [hls]; simp)
 have hyy := hl.2 y0 (by rw [hy0]; simp)
 have hm : ∀ y ∈ l, (-1 ≤ y.tag ∧ y.tag ≤ 256) ∧ VL 6 y.body := fun y hy => ⟨(hl.2 y hy).1, (hl.2 y hy).2.mono (by decide)⟩
 have hset : ∀ y : Ext, (-1 ≤ y.tag ∧ y.tag ≤ 256) → VL 6 y.body → YL (pre ++ y :: suf) := fun y h1 h2 => by
  refine ⟨by rw [hls] at hl5; simp at hl5 ⊢; omega, fun z hz => ?_⟩
  rcases List.mem_append.1 hz with e | e
  ·exact hm z (by rw [hls]; simp [e])
  rcases List.mem_cons.1 e with e | e
  ·rw [e]; exact ⟨h1, h2⟩
  ·exact hm z (by rw [hls]; simp [e])
 obtain ⟨ix, hix⟩ := nm (pre.length * 2)
 obtain ⟨jx, hjx⟩ := nm (([] : List Ext).length * 2)
 obtain ⟨e1, he1⟩ := nm (row fI x.body)
 obtain ⟨e2, he2⟩ := nm (row fI y0.body)
 obtain ⟨e3, he3⟩ := nm (row fI (x.body ++ [vc]))
 obtain ⟨ea, hea⟩ := nm (row fExt (pre ++ ⟨va, x.body⟩ :: suf))
 obtain ⟨ec, hec⟩ := nm (row fExt (pre ++ ⟨x.tag, x.body ++ [vc]⟩ :: suf))
 obtain ⟨ed, hed⟩ := nm (row fExt (pre ++ ⟨x.tag, [1, 2, 3, 4, 5]⟩ :: suf))
 obtain ⟨ef, hef⟩ := nm (row fExt (l ++ [⟨y0.tag, []⟩]))
 have p0 : at' 2 el ii = some (ix, [.int .i64 x.tag, .row () e1]) := by rw [hix, he1]; exact F.get hi hel hls (fun _ => rfl) (by decide)
 have p1 : at' 2 el 0 = some (jx, [.int .i64 y0.tag, .row () e2]) := by rw [hjx, he2]; exact F.get (pre := []) at0 hel hy0 (fun _ => rfl) (by decide)
 rw [← hn]
 rw [k2]; cbv
 rw [k3]; cbv
 refine both (fun d2 => ?_) (fun d2 => ?_) <;> rw [d2] <;> cbv
 ·have q : setFlat el (ix + 0) [.int .i64 va] = some ea := by rw [hel, hls, hea]; exact set_fld (fun _ => rfl) (by decide) rfl hix
  rw [kA]; cbv
  rw [p0]; cbv
  first | rw [show set el (ix + 0) [.int .i64 va] = some ea by rw [F.set]; exact q] | rw [show set el (Nat.add ix 0) [.int .i64 va] = some ea by rw [F.set]; exact q] | rw [show set el ix [.int .i64 va] = some ea by rw [F.set]; exact q]
  cbv
  rw [hQ]; cbv
  exact hW' ea ia ha _ hea wa (hset _ (by simp only; omega) (hxx.2.mono (by decide)))
 refine both (fun d3 => ?_) (fun d3 => ?_) <;> rw [d3] <;> cbv
 ·have q : setFlat el (ix + 1) [.row () e3] = some ec := by rw [hel, hls, hec, he3]; exact set_fld (fun _ => rfl) (by decide) rfl hix
  have s1 : allS e1 = true := F.scal he1 (fun _ => rfl)
  have s2 : allS [[.int .i64 vc]] = true := by rw [F.allS]; rfl
  have s3 : app 1 e1 [[.int .i64 vc]] = some e3 := by rw [he3]; exact F.push (f := fI) he1 (fun _ => rfl) rfl (by have := hxx.2.1; omega)
  rw [p0]; cbv
  rw [kC]; cbv
  repeat (first | (rw [s1]; cbv) | (rw [s2]; cbv) | (rw [s3]; cbv) | (rw [p0]; cbv))
  first | rw [show set el (ix + 1) [.row () e3] = some ec by rw [F.set]; exact q] | rw [show set el (Nat.add ix 1) [.row () e3] = some ec by rw [F.set]; exact q]
  cbv
  rw [hQ]; cbv
  exact hW' ec ic hc _ hec wc (hset _ hxx.1 (hxx.2.push (by omega) (by omega)))
 refine both (fun d4 => ?_) (fun d4 => ?_) <;> rw [d4] <;> cbv
 ·have q : setFlat el (ix + 1) [.row () [[.int .i64 1], [.int .i64 2], [.int .i64 3], [.int .i64 4], [.int .i64 5]]] = some ed := by rw [hel, hls, hed]; exact set_fld (fun _ => rfl) (by decide) rfl hix
  rw [p0]; cbv
  first | rw [show set el (ix + 1) [.row () [[.int .i64 1], [.int .i64 2], [.int .i64 3], [.int .i64 4], [.int .i64 5]]] = some ed by rw [F.set]; exact q] | rw [show set el (Nat.add ix 1) [.row () [[.int .i64 1], [.int .i64 2], [.int .i64 3], [.int .i64 4], [.int .i64 5]]] = some ed by rw [F.set]; exact q]
  cbv
  rw [hQ]; cbv
  exact hW' ed i3 h3 _ hed w3 (hset _ hxx.1 ⟨by simp, fun y hy => by simp at hy; omega⟩)
 refine both (fun d5 => ?_) (fun d5 => ?_) <;> rw [d5] <;> cbv
 ·have s1 : allS [[.int .i64 y0.tag, .row () []]] = false := by rw [F.allS]; rfl
  have s2 : app 2 el [[.int .i64 y0.tag, .row () []]] = some ef := by rw [hef]; exact F.push (f := fExt) hel (fun _ => rfl) rfl (by omega)
  rw [p1]; cbv
  rw [s1]; cbv
  rw [s2]; cbv
  rw [hQ]; cbv
  exact hW' ef i3 h3 _ hef w3 ⟨by simp; omega, fun y hy => by
   rcases List.mem_append.1 hy with e | e
   ·exact hm y e
   ·simp at e; rw [e]; exact ⟨hyy.1, by simp [VL]⟩⟩
 ·rw [hQ]; cbv
  exact hW' el i3 h3 l hel w3 hl.yl
theorem ok3250 (c : Cur) (q : c.Ok) (n : Int) (h0 : 0 < n) (h1 : n ≤ 256) : fix Tb md 3250 [sCur (row fU c.b) (.sp 0 0) c.ii c.h, I n] = some ⟨[B (onceV n c)], [], some (vCur (row fU c.b) (byteC c).ii (byteC c).h)⟩ := by
 have k1 := ok3317 c q n h0 h1
 obtain ⟨y, hy⟩ := nm (belowV n c)
 obtain ⟨z, hz⟩ := nm (onceV n c)
 have hz2 : z = decide (y = 0) := by rw [hz, hy]; rfl
 obtain ⟨i, hi⟩ := nm (c.ii)
 obtain ⟨h, hh⟩ := nm (c.h)
 obtain ⟨i', hi'⟩ := nm ((byteC c).ii)
 obtain ⟨h', hh'⟩ := nm ((byteC c).h)
 rw [← hy, ← hi, ← hh, ← hi', ← hh'] at k1
 rw [← hz, ← hi, ← hh, ← hi', ← hh']
 generalize hr : (⟨_, [], some _⟩ : Ret) = r
 obtain ⟨eb, heb⟩ := nm (row fU c.b)
 rw [← heb] at k1 hr ⊢
 refine fix_bx (fn := ir3250) tb_3250 rfl rfl rfl (by decide) ?_; intro Q hQ; simp only [List.map_cons, List.map_nil, ir3250]
 intro add sub mul arith eq ne lt le gt ge neg conv mn mx not beq len at' ln bd cut app allS isNil mks set o hP F ho
 have g3 : eq y 0 = z := by rw [F.eq, hz2]
 rw [← ho] at k1
 cbv
 rw [k1]; cbv
 rw [g3, hQ]; cbv
 exact congrArg some hr
theorem CW.new {B : List Int} (h : B.length ≤ 1048576) : CW B 0 := ⟨0, rfl, by omega, h⟩
theorem once_dr {Bs : List Int} {i : Int} (w : CW Bs i) (h n : Int) (h0 : 0 < n) (h1 : n ≤ 256) : ∃ (x : Bool) (i' h' : Int), fix Tb md 3250 [sCur (row fU Bs) (.sp 0 0) i h, I n] = some ⟨[B x], [], some (vCur (row fU Bs) i' h')⟩ ∧ CW Bs i' := by
 obtain ⟨c, q, rfl, rfl, rfl⟩ := w.cur h
 exact ⟨_, _, _, ok3250 c q n h0 h1, (byteC_ok q).cw⟩
theorem dr190 (B : List Int) (hl : B.length ≤ 1048576) : ∃ r, fix Tb md 190 [R (row fU B) (.sp 0 0)] = some r ∧ ∃ p v x, r = ⟨[R (row fBox p) (.ow false), R (row fI v) (.ow false), R (row fExt x) (.ow false)], [], none⟩ ∧ PL 3 p ∧ VL 5 v ∧ YL x := by
 have k1 := ok246 B hl
 obtain ⟨h, hh⟩ := nm (newC B).h
 rw [← hh] at k1
 obtain ⟨_, k2, p, i1, h1, rfl, w1, hp⟩ := dr3313 (CW.new hl) h
 obtain ⟨_, k3, l, i2, h2, rfl, w2, hl'⟩ := dr3315 w1 h1
 obtain ⟨_, k4, x, i3, h3, rfl, w3, hx⟩ := dr3316 w2 h2
 obtain ⟨eb, heb⟩ := nm (row fU B)
 obtain ⟨el, hel⟩ := nm (row fI l)
 obtain ⟨ex, hex⟩ := nm (row fExt x)
 obtain ⟨ep, hep⟩ := nm (row fBox p)
 rw [← heb] at k1 k2 k3 k4 ⊢
 rw [← hep] at k2
 rw [← hel] at k3
 rw [← hex] at k4
 refine fix_fnE (fn := ir190) tb_190 rfl rfl (by decide) rfl ?_; intro Q W hW hQ
 simp only [shutArgs, shutS, List.map_cons, List.map_nil, ir190, shut_in (show inFl (.sp 0 0) = true from rfl), List.head?_nil, reduceCtorEq, if_false] at hQ ⊢
 have hW' : W (some ⟨[R ep (.ow false), R el (.ow false), R ex (.ow false)], [], none⟩) := hW _ ⟨p, l, x, by rw [hel, hex, hep], hp, hl', hx⟩
 clear hW
 intro add sub mul arith eq ne lt le gt ge neg conv mn mx not beq len at' ln bd cut app allS isNil mks set o hP F ho
 rw [← ho] at k1 k2 k3 k4
 cbv
 rw [k1]; cbv
 rw [k2]; cbv
 rw [k3]; cbv
 rw [k4]; cbv
 rw [hQ]; cbv
 exact hW'
theorem dr3247 {B : List Int} {i : Int} (w : CW B i) (h : Int) : ∃ r, fix Tb md 3247 [sCur (row fU B) (.sp 0 0) i h] = some r ∧ ∃ l x i' h', r = ⟨[sHello (row fI l) (row fExt x) (.ow false) (.ow false)], [], some (vCur (row fU B) i' h')⟩ ∧ CW B i' ∧ VL 4 l ∧ l ≠ [] ∧ XL 5 x := by
 obtain ⟨_, k1, l, i1, h1, rfl, w1, hl, hne⟩ := dr3248 w h
 obtain ⟨_, k2, x, i2, h2, rfl, w2, hx⟩ := dr3344 w1 h1
 obtain ⟨eb, heb⟩ := nm (row fU B)
 obtain ⟨el, hel⟩ := nm (row fI l)
 obtain ⟨ex, hex⟩ := nm (row fExt x)
 rw [← heb] at k1 k2 ⊢
 rw [← hel] at k1
 rw [← hex] at k2
 refine fix_bxE (fn := ir3247) tb_3247 rfl rfl rfl (by decide) ?_; intro Q W hW hQ; simp only [List.map_nil, ir3247]
 have hW' : W (some ⟨[sHello el ex (.ow false) (.ow false)], [], some (vCur eb i2 h2)⟩) := hW _ ⟨l, x, i2, h2, by rw [hel, hex], w2, hl, hne, hx⟩
 clear hW
 intro add sub mul arith eq ne lt le gt ge neg conv mn mx not beq len at' ln bd cut app allS isNil mks set o hP F ho
 rw [← ho] at k1 k2
 cbv
 rw [k1]; cbv
 rw [k2]; cbv
 rw [hQ]; cbv
 exact hW'
theorem dr3251 {B : List Int} {i : Int} (w : CW B i) (h : Int) : ∃ r, fix Tb md 3251 [sCur (row fU B) (.sp 0 0) i h] = some r ∧ ∃ l x i' h', r = ⟨[sHello (row fI l) (row fExt x) (.ow false) (.ow false)], [], some (vCur (row fU B) i' h')⟩ ∧ CW B i' ∧ VL 5 l ∧ YL x := by
 obtain ⟨_, k1, l, x, i1, h1, rfl, w1, hl, hne, hx⟩ := dr3247 w h
 obtain ⟨n, i2, h2, k2, w2, r2, r2'⟩ := below_dr w1 h1 6 (by decide) (by decide)
 obtain ⟨_, k3, l', i3, h3, rfl, w3, hl'⟩ := dr3315 w2 h2
 obtain ⟨_, k4, x', i4, h4, rfl, w4, hx'⟩ := dr3316 w2 h2
 obtain ⟨eb, heb⟩ := nm (row fU B)
 obtain ⟨el, hel⟩ := nm (row fI l)
 obtain ⟨ex, hex⟩ := nm (row fExt x)
 obtain ⟨el', hel'⟩ := nm (row fI l')
 obtain ⟨ex', hex'⟩ := nm (row fExt x')
 rw [← heb] at k1 k2 k3 k4 ⊢
 rw [← hel, ← hex] at k1
 rw [← hel'] at k3
 rw [← hex'] at k4
 refine fix_bxE (fn := ir3251) tb_3251 rfl rfl rfl (by decide) ?_; intro Q W hW hQ; simp only [List.map_nil, ir3251]
 have hW' : ∀ el ex i' h' l x, el = row fI l → ex = row fExt x → CW B i' → VL 5 l → YL x → W (some ⟨[sHello el ex (.ow false) (.ow false)], [], some (vCur eb i' h')⟩) := fun el ex i' h' l x e1 e2 a b c => hW _ ⟨l, x, i', h', by rw [e1, e2], a, b, c⟩
 clear hW
 intro add sub mul arith eq ne lt le gt ge neg conv mn mx not beq len at' ln bd cut app allS isNil mks set o hP F ho
 rw [← ho] at k1 k2 k3 k4
 cbv
 rw [k1]; cbv
 rw [k2]; cbv
 refine both (fun d => ?_) (fun d => ?_) <;> rw [d] <;> cbv
 ·rw [k3]; cbv
  rw [hQ]; cbv
  exact hW' el' ex i3 h3 l' x hel' hex w3 hl' hx.yl
 refine both (fun d => ?_) (fun d => ?_) <;> rw [d] <;> cbv
 ·rw [k4]; cbv
  rw [hQ]; cbv
  exact hW' el ex' i4 h4 l x' hel hex' w4 (hl.mono (by decide)) hx'
 ·rw [hQ]; cbv
  exact hW' el ex i2 h2 l x hel hex w2 (hl.mono (by decide)) hx.yl
theorem dr191 (B : List Int) (hl : B.length ≤ 1048576) : ∃ r, fix Tb md 191 [R (row fU B) (.sp 0 0)] = some r ∧ ∃ l x v t, r = ⟨[sHello (row fI l) (row fExt x) (.ow false) (.ow false), R (row fI v) (.ow false), R (row fI t) (.ow false)], [], none⟩ ∧ VL 5 l ∧ YL x ∧ VL 2 v ∧ VL 4 t := by
 have k1 := ok246 B hl
 obtain ⟨h, hh⟩ := nm (newC B).h
 rw [← hh] at k1
 obtain ⟨_, k2, l, x, i1, h1, rfl, w1, hl', hx⟩ := dr3251 (CW.new hl) h
 obtain ⟨n2, i2, h2, k3, w2, r2, r2'⟩ := below_dr w1 h1 3 (by decide) (by decide)
 have kb := fun {i : Int} (w : CW B i) (h : Int) => below_dr w h 6 (by decide) (by decide)
 have kt := fun {i : Int} (w : CW B i) (h : Int) => dr3249 w h
 obtain ⟨eb, heb⟩ := nm (row fU B)
 obtain ⟨el, hel⟩ := nm (row fI l)
 obtain ⟨ex, hex⟩ := nm (row fExt x)
 rw [← heb] at k1 k2 k3 kb kt ⊢
 rw [← hel, ← hex] at k2
 refine fix_fnE (fn := ir191) tb_191 rfl rfl (by decide) rfl ?_; intro Q W hW hQ
 simp only [shutArgs, shutS, List.map_cons, List.map_nil, ir191, shut_in (show inFl (.sp 0 0) = true from rfl), List.head?_nil, reduceCtorEq, if_false] at hQ ⊢
 have hW' : ∀ v t ev et, ev = row fI v → et = row fI t → VL 2 v → VL 4 t → W (some ⟨[sHello el ex (.ow false) (.ow false), R ev (.ow false), R et (.ow false)], [], none⟩) := fun v t ev et a1 a2 b1 b2 => hW _ ⟨l, x, v, t, by rw [hel, hex, a1, a2], hl', hx, b1, b2⟩
 clear hW
 intro add sub mul arith eq ne lt le gt ge neg conv mn mx not beq len at' ln bd cut app allS isNil mks set o hP F ho
 rw [← ho] at k1 k2 k3 kb kt
 have hgt : ∀ (z : Int) (n : Nat), z = (n : Int) → gt z 0 = decide (0 < n) := fun z n e => by rw [F.gt, e]; simp
 have hdec : ∀ (z : Int) (n : Nat), z = ((n + 1 : Nat) : Int) → n ≤ 1000 → sub .i64 z 1 = (n : Int) := fun z n e hn => by rw [F.sub, e, wrap64 (by omega) (by omega)]; omega
 cbv
 rw [k1]; cbv
 rw [k2]; cbv
 rw [k3]; cbv
 refine loop_ind2 hP (σ := Nat × List Int × Int × List (List V) × Int × Int) (fun s => [(0, R eb .sh), (2, ⟨.ptr 32 0, []⟩), (3, R [] .nl), (4, R [] .nl), (5, ⟨.ptr 40 0, []⟩), (6, ⟨.ptr 36 0, []⟩), (7, R s.2.2.2.1 (.ow false)), (8, I s.2.2.1), (32, ⟨.box (), [⟨.row () [], .nl⟩, ⟨.row () [], .nl⟩]⟩), (36, ⟨.box (), [⟨.row () el, .ow false⟩, ⟨.row () ex, .ow false⟩]⟩), (40, ⟨.box (), [⟨.row () eb, .no⟩, ⟨.int .i64 s.2.2.2.2.1, .sc⟩, ⟨.int .i64 s.2.2.2.2.2, .sc⟩]⟩)]) (fun s => CW B s.2.2.2.2.1 ∧ s.2.2.1 = (s.1 : Int) ∧ s.2.2.2.1 = row fI s.2.1 ∧ s.1 ≤ 2 ∧ VL (2 - s.1) s.2.1) (fun s => s.1) (n2.toNat, [], n2, [], i2, h2) rfl ⟨w2, by simp only; omega, rfl, by simp only; omega, by simp [VL]⟩ ?_
 intro c9 Q1 hc9 hQ1
 rintro ⟨n, l, nn, ev, i, h⟩ ⟨hw, hnn, hev, hn, hl⟩ ih
 simp only at hw hnn hev hn hl ih
 cbv
 cases n with
 | zero =>
  obtain ⟨_, k, t, i', h', rfl, w', ht⟩ := kt hw h
  obtain ⟨et, het⟩ := nm (row fI t)
  rw [← het] at k
  rw [hgt nn 0 hnn]; cbv
  rw [hQ1]; cbv
  rw [k]; cbv
  rw [hQ]; cbv
  exact hW' l t ev et hev het hl ht
 | succ n =>
  rw [hgt nn (n + 1) hnn]; cbv
  obtain ⟨x, i', h', k, w', rx, rx'⟩ := kb hw h
  obtain ⟨y, hy⟩ := nm (add .i64 1 x)
  have a2 : y = 1 + x := by rw [hy, F.add, wrap64 (by omega) (by omega)]
  obtain ⟨ev', hev'⟩ := nm (row fI (l ++ [y]))
  rw [k]; cbv
  rw [← hy]
  rw [show allS [[.int .i64 y]] = true by rw [F.allS]; rfl]; cbv
  rw [show app 1 ev [[.int .i64 y]] = some ev' by rw [hev']; exact F.push (f := fI) hev (fun _ => rfl) rfl (by have := hl.1; omega)]; cbv
  rw [hdec nn n hnn (by omega)]
  exact ih (n, l ++ [y], (n : Int), ev', i', h') ⟨w', rfl, hev', by omega, (hl.push (by omega) (by omega)).mono (by omega)⟩ (by simp)
theorem fitL_U {vs : List V} (h : FitL [.int .u8] vs) : ∃ n, vs = fU n ∧ True := by
 obtain ⟨v, vs', rfl, h1, h2⟩ := fitL_cons h
 obtain ⟨n, rfl, h3⟩ := fit_int h1
 exact ⟨n, by rw [fitL_nil h2]; rfl, trivial⟩
theorem goT {x : Bool} {A B : Prop} (h : x = true) (a : A) : (match (generalizing := false) x with | true => A | false => B) := by subst h; exact a
theorem goF {x : Bool} {A B : Prop} (h : x = false) (b : B) : (match (generalizing := false) x with | true => A | false => B) := by subst h; exact b
theorem shareA {α : Type} {G : α → Prop} {C : Prop} (main : (∀ a, G a) → C) (proof : ∀ a, G a) : C := main proof
theorem shareB {α β : Type} {G : α → β → Prop} {C : Prop} (main : (∀ a b, G a b) → C) (proof : ∀ a b, G a b) : C := main proof
theorem shareC {α β γ : Type} {G : α → β → γ → Prop} {C : Prop} (main : (∀ a b c, G a b c) → C) (proof : ∀ a b c, G a b c) : C := main proof
def isAns (v : Int) (l : List Ext) : Bool := inR v 1 9 && areEx l
def exI (e : Ext) : List Int := e.tag :: (e.body.length : Int) :: e.body
def encX (l : List Ext) : List Int := (l.length : Int) :: l.flatMap exI
theorem exOk_all : ∀ {suf pre : List Ext}, exOk pre suf = true → ∀ y ∈ suf, y.body.length ≤ 4 ∧ inR y.tag 0 255 = true ∧ bytes y.body = true
 | [], _, _, y, hy => by simp at hy
 | x :: suf, pre, h, y, hy => by
  simp only [exOk, Bool.and_eq_true] at h
  obtain ⟨⟨⟨⟨h1, h2⟩, h3⟩, h4⟩, h5⟩ := h
  rcases List.mem_cons.1 hy with rfl | hy
  ·refine ⟨?_, h1, h3⟩
   simp at h2; omega
  ·exact exOk_all h5 y hy
theorem areEx_all {l : List Ext} (h : areEx l = true) : l.length ≤ 6 ∧ ∀ y ∈ l, y.body.length ≤ 4 ∧ inR y.tag 0 255 = true ∧ bytes y.body = true := by
 simp only [areEx, Bool.and_eq_true, decide_eq_true_eq] at h
 exact ⟨h.2, exOk_all h.1⟩
theorem exI_len : ∀ {l : List Ext}, (∀ y ∈ l, y.body.length ≤ 4) → (l.flatMap exI).length ≤ 6 * l.length
 | [], _ => by simp
 | x :: l, h => by
  have h1 := h x (by simp)
  have h2 := exI_len (l := l) (fun y hy => h y (by simp [hy]))
  rw [List.flatMap_cons, List.length_append, List.length_cons]
  simp only [exI, List.length_cons]
  omega
theorem encX_len {l : List Ext} (h : areEx l = true) : (encX l).length ≤ 37 := by
 obtain ⟨h1, h2⟩ := areEx_all h
 have := exI_len (fun y hy => (h2 y hy).1)
 simp only [encX, List.length_cons]
 omega
theorem ok293 (l : List Ext) (hok : areEx l = true) {f0 : Fl} (h0 : inFl f0 = true) : fix Tb md 293 [R (row fExt l) f0] = some ⟨[R (row fI (encX l)) (.ow false), B true], [], none⟩ := by
 obtain ⟨hl, hw⟩ := areEx_all hok
 obtain ⟨et, het⟩ := nm (row fI (encX l))
 rw [← het]
 generalize hr : (⟨_, [], none⟩ : Ret) = r
 obtain ⟨ea, hea⟩ := nm (row fExt l)
 rw [← hea]
 obtain ⟨nl, hnl⟩ := nm ((l.length : Int))
 obtain ⟨e0, he0⟩ := nm (row fI [nl])
 have hen : encX l = nl :: l.flatMap exI := by rw [hnl]; rfl
 refine fix_fn2 (fn := ir293) tb_293 rfl rfl (by decide) rfl ?_; intro Q hQ; simp only [shutArgs, shutS, List.map_cons, List.map_nil, ir293, shut_in h0, List.head?_nil, reduceCtorEq, if_false, sExt, sHello, sAnswer, sEdit, sDeal, sBox, sDialed, sKnown]
 intro add sub mul arith eq ne lt le gt ge neg conv mn mx not beq len at' ln bd cut app allS isNil mks set o hP F ho
 have la := F.len_at hea
 have lna : len ea = nl := by rw [hnl]; exact la
 have la' : At nl l.length := hnl
 have c1 : o 271 [R ea (.sp 0 0)] = some ⟨[B true], [], none⟩ := by rw [ho, hea, ← hok]; exact ok271 _ (by omega) (fun y hy => by have := (hw y hy).1; omega) rfl
 cbv
 rw [c1]; cbv
 rw [show not true = false by rw [F.not]; rfl]; cbv
 rw [lna]
 refine loop_ind2 hP (σ := List Ext × List Ext × List (List V) × Int) (fun s => [(0, R ea .sh), (2, R [] .nl), (3, B false), (4, R s.2.2.1 (.ow false)), (5, I s.2.2.2)]) (fun s => At s.2.2.2 s.2.1.length ∧ l = s.2.1 ++ s.1 ∧ s.2.2.1 = row fI (nl :: s.2.1.flatMap exI)) (fun s => s.1.length) (l, [], [[.int .i64 nl]], 0) rfl ⟨rfl, rfl, rfl⟩ ?_
 intro c1 Q1 hc1 hQ1
 rintro ⟨suf, pre, eo, i⟩ ⟨hi, hl', hb⟩ ih
 simp only at hi hl' hb ih
 have hpre : pre.length ≤ 6 := by rw [hl'] at hl; simp at hl; omega
 have hfl : (pre.flatMap exI).length ≤ 36 := by have := exI_len (l := pre) (fun y hy => (hw y (by rw [hl']; simp [hy])).1); omega
 cbv
 cases suf with
 | nil =>
  rw [F.lt_f hi la (by simp [hl'])]; cbv
  rw [hQ1]; cbv
  rw [hQ]; cbv
  rw [← hr, het, hb, hen, hl', List.append_nil]
 | cons x suf =>
  obtain ⟨ix, hix⟩ := nm (pre.length * 2)
  obtain ⟨e1, he1⟩ := nm (row fI x.body)
  obtain ⟨nb, hnb⟩ := nm ((x.body.length : Int))
  have hx := (hw x (by rw [hl']; simp)).1
  have hxi : exI x = x.tag :: nb :: x.body := by rw [hnb]; rfl
  have p0 : at' 2 ea i = some (ix, [.int .i64 x.tag, .row () e1]) := by rw [hix, he1]; exact F.get hi hea hl' (fun _ => rfl) (by decide)
  have l1 : len e1 = nb := by rw [hnb]; exact F.len_at he1
  obtain ⟨eo1, heo1⟩ := nm (row fI (nl :: pre.flatMap exI ++ [x.tag, nb]))
  obtain ⟨eo2, heo2⟩ := nm (row fI (nl :: (pre ++ [x]).flatMap exI))
  have q1 : app 1 eo [[.int .i64 x.tag], [.int .i64 nb]] = some eo1 := by
   have h := F.app' (f := fI) (k := 1) (e2 := [[.int .i64 x.tag], [.int .i64 nb]]) (l2 := [x.tag, nb]) hb rfl (fun _ => rfl) (by simp only [List.length_cons, List.length_append, List.length_nil]; omega)
   rw [h, heo1]
  have q2 : app 1 eo1 e1 = some eo2 := by
   have h := F.app' (f := fI) (k := 1) heo1 he1 (fun _ => rfl) (by simp only [List.length_cons, List.length_append, List.length_nil]; omega)
   rw [h, heo2, List.flatMap_append, List.flatMap_cons, hxi]; simp
  have q3 : allS [[.int .i64 x.tag], [.int .i64 nb]] = true := by rw [F.allS]; rfl
  have q4 : allS e1 = true := F.scal he1 (fun _ => rfl)
  rw [F.lt_t hi la (by simp [hl'])]; cbv
  rw [p0]; cbv
  repeat' (first | (rw [p0]; cbv) | (rw [l1]; cbv) | (rw [q1]; cbv) | (rw [q2]; cbv) | (rw [q3]; cbv) | (rw [q4]; cbv))
  refine ih (suf, pre ++ [x], eo2, add .i64 i 1) ⟨at_len (F.inc hi (by omega)) (by simp), by simp [hl'], heo2⟩ (by simp)
def ansB (a : Answer) : List Int := if isAns a.version a.exts = true then a.version :: encX a.exts else []
theorem ansB_len (a : Answer) : (ansB a).length ≤ 38 := by
 unfold ansB
 split
 ·rename_i h
  have hok : areEx a.exts = true := by unfold isAns at h; simp at h; exact h.2
  have := encX_len hok
  rw [List.length_cons]; omega
 ·simp
def resv (t : Int) : Bool := inR t 0 255 && decide (Int.tmod t 16 = 10)
def notRes (e : Ext) : Bool := !resv e.tag
def caOk (vs : List Int) (h : Hello) : Bool := isHel h && !decide (bestC vs h.versions = 0)
def caX (tg : List Int) (l : List Ext) : List Ext := sel notRes idE (sel (tagIn tg) idE l)
def caV (vs tg : List Int) (h : Hello) : Answer := if caOk vs h then ⟨bestC vs h.versions, caX tg h.exts⟩ else ⟨0, []⟩
theorem caV_mid {vs tg : List Int} {h : Hello} (m : h.Mid) : (caV vs tg h).Mid := by
 unfold caV
 split
 ·unfold Hello.Mid at m
  refine ⟨Nat.le_trans sel_len (Nat.le_trans sel_len m.2.1), fun y hy => m.2.2 y ?_⟩
  simp only [caX, sel_idE] at hy
  exact (List.mem_filter.1 (List.mem_filter.1 hy).1).1
 ·exact ⟨by simp, by simp⟩
def gEx (x : Ext) : Bool := inR x.tag 0 255 && !decide (4 < x.body.length) && bytes x.body
theorem exOk_iff : ∀ {suf pre : List Ext}, exOk pre suf = true ↔ (∀ x ∈ suf, gEx x = true ∧ ∀ y ∈ pre, y.tag ≠ x.tag) ∧ suf.Pairwise (fun x y => x.tag ≠ y.tag)
 | [], pre => by simp [exOk]
 | x :: suf, pre => by
  have hp : pre.any (tagP x.tag) = false ↔ ∀ y ∈ pre, y.tag ≠ x.tag := by simp [List.any_eq_false, tagP]
  unfold exOk
  simp only [Bool.and_eq_true, Bool.not_eq_true', exOk_iff (suf := suf) (pre := pre ++ [x]), List.pairwise_cons, hp]
  constructor
  ·rintro ⟨⟨⟨⟨a, b⟩, c⟩, d⟩, e, f⟩
   refine ⟨?_, fun y hy => ?_, f⟩
   ·intro z hz
    rcases List.mem_cons.1 hz with rfl | hz
    ·exact ⟨by unfold gEx; rw [a, b, c]; rfl, d⟩
    ·exact ⟨(e z hz).1, fun y hy => (e z hz).2 y (by simp [hy])⟩
   ·exact (e y hy).2 x (by simp)
  ·rintro ⟨h1, h2, h3⟩
   have hx := h1 x (by simp)
   unfold gEx at hx
   simp only [Bool.and_eq_true, Bool.not_eq_true'] at hx
   refine ⟨⟨⟨hx.1.1, hx.1.2⟩, hx.2⟩, fun z hz => ⟨(h1 z (by simp [hz])).1, fun y hy => ?_⟩, h3⟩
   rcases List.mem_append.1 hy with hy | hy
   ·exact (h1 z (by simp [hz])).2 y hy
   ·simp at hy; subst hy; exact h2 z hz
theorem areEx_iff {l : List Ext} : areEx l = true ↔ (∀ x ∈ l, gEx x = true) ∧ l.Pairwise (fun x y => x.tag ≠ y.tag) ∧ l.length ≤ 6 := by
 unfold areEx
 rw [Bool.and_eq_true, exOk_iff, decide_eq_true_eq]
 constructor
 ·rintro ⟨⟨h1, h2⟩, h3⟩; exact ⟨fun x hx => (h1 x hx).1, h2, h3⟩
 ·rintro ⟨h1, h2, h3⟩; exact ⟨⟨fun x hx => ⟨h1 x hx, by simp⟩, h2⟩, h3⟩
theorem areEx_sel {l : List Ext} {p : Ext → Bool} (h : areEx l = true) : areEx (sel p idE l) = true := by
 rw [sel_idE]
 obtain ⟨h1, h2, h3⟩ := areEx_iff.1 h
 exact areEx_iff.2 ⟨fun x hx => h1 x (List.mem_filter.1 hx).1, h2.filter _, Nat.le_trans (List.length_filter_le _ _) h3⟩
theorem bestC_in {a b : List Int} (h : bestC a b ≠ 0) : 1 ≤ bestC a b ∧ bestC a b ≤ 9 ∧ hasI b (bestC a b) = true ∧ hasI a (bestC a b) = true := by
 unfold bestC at h ⊢
 split at h
 ·rename_i hv
  rw [if_pos hv]
  rw [Bool.and_eq_true] at hv
  have hne : comm a b ≠ [] := fun e => by rw [e] at h; exact h rfl
  have hm : (comm a b).getLastD 0 ∈ comm a b := by
   rw [List.getLastD_eq_getLast?, List.getLast?_eq_some_getLast hne]
   exact List.getLast_mem hne
  obtain ⟨m, hmm⟩ : ∃ m, m = (comm a b).getLastD 0 := ⟨_, rfl⟩
  rw [← hmm] at hm ⊢
  have h1 := (comm_asc (b := b) hv.1).2 _ hm
  have h2 : m ∈ a ∧ hasI b m = true := by
   unfold comm at hm
   rw [sel_idI, List.mem_filter] at hm
   exact hm
  refine ⟨h1.1, h1.2, h2.2, ?_⟩
  unfold hasI
  rw [List.any_eq_true]
  exact ⟨_, h2.1, by simp⟩
 ·exact absurd rfl h
theorem caV_ans {vs tg : List Int} {h : Hello} (q : caOk vs h = true) : isAns (caV vs tg h).version (caV vs tg h).exts = true := by
 unfold caV
 rw [if_pos q]
 unfold caOk isHel at q
 simp only [Bool.and_eq_true, Bool.not_eq_true', decide_eq_false_iff_not] at q
 obtain ⟨⟨_, hx⟩, hb⟩ := q
 have := bestC_in hb
 unfold isAns
 rw [Bool.and_eq_true]
 refine ⟨?_, areEx_sel (areEx_sel hx)⟩
 unfold inR
 simp; omega
theorem caOk_hel {vs : List Int} {h : Hello} (q : caOk vs h = true) : isHel h = true := by
 unfold caOk at q; simp only [Bool.and_eq_true] at q; exact q.1
theorem ansB_ne {a : Answer} (q : isAns a.version a.exts = true) : ansB a ≠ [] := by unfold ansB; rw [if_pos q]; simp
theorem pb_clear {b : Box} {h : Hello} (c : isClear b.limit b.drops b.strips b.lists = true) (hh : isHel h = true) : pbOk b h = true ∧ pbV b h = h := by
 obtain ⟨lim, d, s, v⟩ := b
 unfold isClear at c
 simp only [Bool.and_eq_true, decide_eq_true_eq, List.isEmpty_iff, Bool.not_eq_true'] at c
 obtain ⟨⟨⟨rfl, rfl⟩, rfl⟩, rfl⟩ := c
 have hl : ∀ e, lost ⟨0, [], [], false⟩ e = false := fun e => by unfold lost hasI; simp
 have hn : h.exts.any (lost ⟨0, [], [], false⟩) = false := by rw [List.any_eq_false]; intro e _; rw [hl e]; simp
 have hs : ∀ e, stripE [] e = true := fun e => by unfold stripE hasI; simp
 have hb : isBox 0 [] [] = true := by decide
 have ho : overL ⟨0, [], [], false⟩ h = false := by unfold overL; simp
 have ok : pbOk ⟨0, [], [], false⟩ h = true := by unfold pbOk; simp only [hb, hh, ho, hn]; rfl
 refine ⟨ok, ?_⟩
 unfold pbV
 rw [if_pos ok]
 simp only [sel_idE]
 rw [List.filter_eq_self.2 (fun e _ => hs e)]
theorem pb_hel {b : Box} {h : Hello} (q : pbOk b h = true) : isHel (pbV b h) = true ∧ (pbV b h).versions = h.versions ∧ subB (sel yesE Ext.tag (pbV b h).exts) (sel yesE Ext.tag h.exts) = true ∧ sel (hasI b.strips) idI (sel yesE Ext.tag (pbV b h).exts) = [] := by
 have hh : isHel h = true := by
  have q' := q
  unfold pbOk at q'
  simp only [Bool.and_eq_true] at q'
  exact q'.1.1.2
 have e : pbV b h = ⟨h.versions, sel (stripE b.strips) idE h.exts⟩ := by unfold pbV; rw [if_pos q]
 rw [e]
 refine ⟨?_, rfl, ?_, ?_⟩
 ·unfold isHel at hh ⊢
  simp only [Bool.and_eq_true] at hh ⊢
  exact ⟨hh.1, areEx_sel hh.2⟩
 ·unfold subB
  rw [List.all_eq_true]
  intro t ht
  rw [hasI_iff]
  unfold sel at ht ⊢
  rw [List.mem_map] at ht ⊢
  obtain ⟨x, hx, rfl⟩ := ht
  refine ⟨x, ?_, rfl⟩
  rw [List.mem_filter] at hx ⊢
  have := hx.1
  rw [List.mem_map] at this
  obtain ⟨y, hy, rfl⟩ := this
  exact ⟨(List.mem_filter.1 hy).1, rfl⟩
 ·rw [List.eq_nil_iff_forall_not_mem]
  intro t ht
  rw [sel_idI, List.mem_filter] at ht
  obtain ⟨h1, h2⟩ := ht
  unfold sel at h1
  rw [List.mem_map] at h1
  obtain ⟨x, hx, rfl⟩ := h1
  have := (List.mem_filter.1 hx).1
  rw [List.mem_map] at this
  obtain ⟨y, hy, rfl⟩ := this
  have h3 := (List.mem_filter.1 hy).2
  unfold stripE at h3
  unfold idE at h2
  rw [h2] at h3
  simp at h3
theorem ppGo_clear : ∀ {p : List Box} {h : Hello}, p.all clearB = true → isHel h = true → ppGo p h = (h, true)
 | [], _, _, _ => rfl
 | b :: p, h, c, hh => by
  rw [List.all_cons, Bool.and_eq_true] at c
  obtain ⟨h1, h2⟩ := pb_clear (b := b) (h := h) c.1 hh
  unfold ppGo
  rw [if_pos h1, h2]
  exact ppGo_clear c.2 hh
theorem pp_clear {p : List Box} {h : Hello} (c : isCP p = true) : ppOk p h = isHel h := by
 unfold isCP at c
 rw [Bool.and_eq_true] at c
 unfold ppOk pp
 rw [c.2, Bool.and_true]
 cases hh : isHel h with
 | true => rw [if_pos rfl, ppGo_clear c.1 hh]
 | false => rfl
theorem verGo_of : ∀ (suf pre : List Int), (∀ y, pre.getLast? = some y → ∀ x ∈ suf, y < x) → suf.Pairwise (· < ·) → (∀ x ∈ suf, 1 ≤ x ∧ x ≤ 9) → verGo pre suf = true
 | [], _, _, _, _ => rfl
 | x :: suf, pre, h1, h2, h3 => by
  unfold verGo
  rw [List.pairwise_cons] at h2
  have hx := h3 x (by simp)
  have e1 : inR x 1 9 = true := by unfold inR; simp [hx]
  have e2 : verGo (pre ++ [x]) suf = true := verGo_of suf _ (fun y hy => by simp at hy; subst hy; exact h2.1) h2.2 (fun y hy => h3 y (by simp [hy]))
  rw [e1, e2]
  cases hp : pre.getLast? with
  | none => rfl
  | some y =>
   have := h1 y hp x (by simp)
   simp; omega
theorem areVer_of {l : List Int} (h0 : l ≠ []) (h2 : l.Pairwise (· < ·)) (h3 : ∀ x ∈ l, 1 ≤ x ∧ x ≤ 9) : areVer l = true := by
 unfold areVer
 rw [verGo_of l [] (by simp) h2 h3]
 simp [List.length_pos_iff, h0]
theorem areVer_sel {l : List Int} {p : Int → Bool} (h : areVer l = true) (h0 : l.filter p ≠ []) : areVer (l.filter p) = true := by
 obtain ⟨h1, h2⟩ := areVer_asc h
 exact areVer_of h0 (h1.filter p) (fun x hx => h2 x (List.mem_filter.1 hx).1)
theorem areVer_one {l : List Int} {v : Int} (h : areVer l = true) (hv : v ∈ l) : areVer [v] = true := by
 obtain ⟨_, h2⟩ := areVer_asc h
 exact areVer_of (by simp) (by simp) (fun x hx => by simp at hx; rw [hx]; exact h2 v hv)
theorem le_last {l : List Int} {v : Int} (h : areVer l = true) (hv : v ∈ l) : v ≤ lastI l := by
 obtain ⟨h1, _⟩ := areVer_asc h
 obtain ⟨p, y, rfl⟩ : ∃ p y, l = p ++ [y] := by
  rcases List.eq_nil_or_concat l with h0 | ⟨p, y, h0⟩
  ·rw [h0] at hv; simp at hv
  ·exact ⟨p, y, by rw [h0, List.concat_eq_append]⟩
 have e : lastI (p ++ [y]) = y := by simp [lastI]
 rw [e]
 rcases List.mem_append.1 hv with h | h
 ·have := (List.pairwise_append.1 h1).2.2 v h y (by simp); omega
 ·simp at h; omega
theorem ppGo_le : ∀ (p : List Box) (h : Hello), (ppGo p h).1.exts.length ≤ h.exts.length
 | [], _ => Nat.le_refl _
 | b :: p, h => by
  unfold ppGo
  split
  ·rename_i q
   refine Nat.le_trans (ppGo_le p _) ?_
   unfold pbV
   rw [if_pos q]
   exact sel_len
  ·simp
theorem ppGo_whole : ∀ {p : List Box} {h : Hello}, ppGo p h = (h, true) → ∀ b ∈ p, pbOk b h = true ∧ ∀ e ∈ h.exts, stripE b.strips e = true
 | [], _, _ => by simp
 | b :: p, h, e => by
  unfold ppGo at e
  split at e
  ·rename_i q
   have hl := ppGo_le p (pbV b h)
   rw [e] at hl
   have hv : pbV b h = ⟨h.versions, h.exts.filter (stripE b.strips)⟩ := by unfold pbV; rw [if_pos q, sel_idE]
   rw [hv] at hl e
   simp only at hl
   have hf : h.exts.filter (stripE b.strips) = h.exts := (List.filter_sublist (p := stripE b.strips) (l := h.exts)).eq_of_length_le hl
   rw [hf] at e
   intro c hc
   rcases List.mem_cons.1 hc with rfl | hc
   ·exact ⟨q, List.filter_eq_self.1 hf⟩
   ·exact ppGo_whole e c hc
  ·cases e
theorem ppGo_all : ∀ {p : List Box} {h : Hello}, (∀ b ∈ p, pbOk b h = true ∧ ∀ e ∈ h.exts, stripE b.strips e = true) → ppGo p h = (h, true)
 | [], _, _ => rfl
 | b :: p, h, k => by
  obtain ⟨q, hs⟩ := k b (by simp)
  unfold ppGo
  rw [if_pos q]
  have hv : pbV b h = h := by
   unfold pbV
   rw [if_pos q, sel_idE, List.filter_eq_self.2 hs]
  rw [hv]
  exact ppGo_all (fun c hc => k c (by simp [hc]))
theorem part_whole {p : List Box} {v : List Int} {x : List Ext} (hh : isHel ⟨v, x⟩ = true) (e : ppGo p ⟨v, x⟩ = (⟨v, x⟩, true)) {v0 : Int} (hv : v0 ∈ v) {y : List Ext} (hy : ∀ z ∈ y, z ∈ x) (hay : areEx y = true) : ppGo p ⟨[v0], y⟩ = (⟨[v0], y⟩, true) := by
 have k := ppGo_whole e
 have hver : areVer v = true := by unfold isHel at hh; simp only [Bool.and_eq_true] at hh; exact hh.1
 refine ppGo_all (fun b hb => ?_)
 obtain ⟨q, hs⟩ := k b hb
 refine ⟨?_, fun z hz => hs z (hy z hz)⟩
 unfold pbOk at q ⊢
 simp only [Bool.and_eq_true, Bool.not_eq_true'] at q ⊢
 obtain ⟨⟨⟨q1, q2⟩, q3⟩, q4⟩ := q
 refine ⟨⟨⟨q1, ?_⟩, ?_⟩, ?_⟩
 ·unfold isHel; rw [areVer_one hver hv, hay]; rfl
 ·unfold overL at q3 ⊢
  have := le_last hver hv
  have e : lastI [v0] = v0 := rfl
  change (decide (0 < b.limit) && decide (b.limit < lastI v)) = false at q3
  show (decide (0 < b.limit) && decide (b.limit < lastI [v0])) = false
  rw [e]
  simp only [Bool.and_eq_false_iff, decide_eq_false_iff_not] at q3 ⊢
  rcases q3 with h | h
  ·exact .inl h
  ·right; omega
 ·rw [List.any_eq_false] at q4 ⊢
  exact fun z hz => q4 z (hy z hz)
theorem areEx_one {x : List Ext} {e : Ext} (h : areEx x = true) (he : e ∈ x) : areEx [e] = true := by
 obtain ⟨h1, h2, h3⟩ := areEx_iff.1 h
 exact areEx_iff.2 ⟨fun z hz => by simp at hz; rw [hz]; exact h1 e he, by simp, by simp⟩
theorem areEx_nil : areEx [] = true := by decide
theorem ppOk_of {p : List Box} {h : Hello} (hl : p.length ≤ 4) (hh : isHel h = true) (e : ppGo p h = (h, true)) : ppOk p h = true ∧ ppV p h = h := by
 unfold ppOk ppV pp
 rw [hh, decide_eq_true hl, e]
 exact ⟨rfl, rfl⟩
theorem none_lost {p : List Box} {v : List Int} {x : List Ext} (hl : p.length ≤ 4) (k : ∀ v0 ∈ v, ∀ y, (∀ z ∈ y, z ∈ x) → areEx y = true → areVer v = true → ppGo p ⟨[v0], y⟩ = (⟨[v0], y⟩, true)) : lvs p v = [] ∧ ltags p v x = [] := by
 have hel : ∀ v0 ∈ v, ∀ y, areEx y = true → areVer v = true → isHel ⟨[v0], y⟩ = true := fun v0 hv y hy h => by unfold isHel; rw [areVer_one h hv, hy]; rfl
 constructor
 ·unfold lvs
  split
  ·rename_i h
   rw [sel_idI, List.filter_eq_nil_iff]
   intro v0 hv
   unfold deadV
   rw [(ppOk_of hl (hel v0 hv [] areEx_nil h) (k v0 hv [] (by simp) areEx_nil h)).1]
   simp
  ·rfl
 ·unfold ltags
  split
  ·rename_i h
   rw [Bool.and_eq_true] at h
   unfold sel
   rw [List.map_eq_nil_iff, List.filter_eq_nil_iff]
   intro e he
   have hver : areVer v = true := by have := h.2; unfold iop at this; rw [Bool.and_eq_true] at this; exact this.1
   cases v with
   | nil => simp [areVer] at hver
   | cons v0 t =>
    unfold deadE pw
    have h1 := areEx_one h.1 he
    obtain ⟨a, b⟩ := ppOk_of hl (hel v0 (by simp) [e] h1 hver) (k v0 (by simp) [e] (by simpa using he) h1 hver)
    rw [show (v0 :: t).take 1 = [v0] from rfl, a, b]
    simp
  ·rfl
theorem lost_clear {p : List Box} {v : List Int} {x : List Ext} (c : isCP p = true) : lvs p v = [] ∧ ltags p v x = [] := by
 unfold isCP at c
 rw [Bool.and_eq_true, decide_eq_true_eq] at c
 exact none_lost c.2 (fun v0 hv y hy hay h => ppGo_clear c.1 (by unfold isHel; rw [areVer_one h hv, hay]; rfl))
theorem lost_whole {p : List Box} {v : List Int} {x : List Ext} (h1 : ppOk p ⟨v, x⟩ = true) (h2 : ppV p ⟨v, x⟩ = ⟨v, x⟩) : lvs p v = [] ∧ ltags p v x = [] := by
 unfold ppOk at h1
 unfold ppV at h2
 unfold pp at h1 h2
 split at h1
 ·rename_i q
  rw [if_pos q] at h2
  rw [Bool.and_eq_true, decide_eq_true_eq] at q
  exact none_lost q.2 (fun v0 hv y hy hay _ => part_whole q.1 (Prod.ext h2 h1) hv hy hay)
 ·cases h1
theorem lvs_sub (p : List Box) (v : List Int) : subB (lvs p v) v = true := by
 unfold subB lvs
 rw [List.all_eq_true]
 intro t ht
 rw [hasI_iff]
 split at ht
 ·rw [sel_idI] at ht; exact (List.mem_filter.1 ht).1
 ·simp at ht
theorem ltags_sub (p : List Box) (v : List Int) (x : List Ext) : subB (ltags p v x) (sel yesE Ext.tag x) = true := by
 unfold subB ltags
 rw [List.all_eq_true]
 intro t ht
 rw [hasI_iff]
 split at ht
 ·unfold sel at ht ⊢
  rw [List.mem_map] at ht ⊢
  obtain ⟨e, he, rfl⟩ := ht
  exact ⟨e, List.mem_filter.2 ⟨(List.mem_filter.1 he).1, rfl⟩, rfl⟩
 ·simp at ht
theorem part_good {h : Hello} {lv tg : List Int} (q : partOk h lv = true) : isHel (partV h lv tg) = true ∧ sel (hasI lv) idI (partV h lv tg).versions = [] ∧ sel (hasI tg) idI (sel yesE Ext.tag (partV h lv tg).exts) = [] ∧ isHel ⟨h.versions, []⟩ = true := by
 have e : partV h lv tg = ⟨h.versions.filter (notIn lv), h.exts.filter (notTagIn tg)⟩ := by unfold partV; rw [if_pos q, sel_idI, sel_idE]
 unfold partOk at q
 rw [sel_idI] at q
 simp only [Bool.and_eq_true, Bool.not_eq_true', decide_eq_false_iff_not] at q
 obtain ⟨q1, q2⟩ := q
 have hne : h.versions.filter (notIn lv) ≠ [] := fun e => q2 (by rw [e]; rfl)
 unfold isHel at q1
 simp only [Bool.and_eq_true] at q1
 rw [e]
 refine ⟨?_, ?_, ?_, ?_⟩
 ·unfold isHel
  simp only
  have := areEx_sel (p := notTagIn tg) q1.2
  rw [sel_idE] at this
  rw [areVer_sel q1.1 hne, this]; rfl
 ·rw [sel_idI, List.filter_eq_nil_iff]
  intro t ht
  have := (List.mem_filter.1 ht).2
  unfold notIn at this
  simpa using this
 ·rw [sel_idI, List.filter_eq_nil_iff]
  intro t ht
  unfold sel at ht
  rw [List.mem_map] at ht
  obtain ⟨z, hz, rfl⟩ := ht
  have := (List.mem_filter.1 (List.mem_filter.1 hz).1).2
  unfold notTagIn at this
  simpa using this
 ·unfold isHel; rw [q1.1, areEx_nil]; rfl
end Go.Vm
