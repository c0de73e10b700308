/- What the functions answer. -/
import Derived.Test.YtmojgceacpclpaaGLTab
import Derived.Test.YtmojgceacpclpaaGLFA
import Derived.Test.YtmojgceacpclpaaGLFB
import Derived.Test.YtmojgceacpclpaaGLFC
import Derived.Test.YtmojgceacpclpaaGLFG
set_option maxHeartbeats 4000000
set_option maxRecDepth 10000
set_option linter.unusedVariables false
set_option linter.unusedSimpArgs false
namespace Go.Vm
theorem dr3365 {Bs : List Int} {i : Int} (w : CW Bs i) (h : Int) : ∃ r, fix Tb md 3365 [sCur (row fU Bs) (.sp 0 0) i h] = some r ∧ ∃ st es l i' h', r = ⟨[sMach st (row fB es) (row fMove l) (.ow false) (.ow false)], [], some (vCur (row fU Bs) i' h')⟩ ∧ CW Bs i' ∧ es.length ≤ 5 ∧ l.length ≤ 9 ∧ l ≠ [] := by
 obtain ⟨_, k1, st, es, l, i1, h1, rfl, w1, hst, hes, hl, hne⟩ := dr3363 w h
 have hpos := List.length_pos_iff.2 hne
 obtain ⟨ii, i2, h2, k2, w2, r2, r2'⟩ := below_dr w1 h1 (l.length : Int) (by omega) (by omega)
 obtain ⟨pre, ⟨x1, x2, x3, x4⟩, suf, hls, hpre⟩ : ∃ pre x suf, l = pre ++ x :: suf ∧ pre.length = ii.toNat := ⟨l.take ii.toNat, l[ii.toNat]'(by omega), l.drop (ii.toNat + 1), by simp, by simp; omega⟩
 obtain ⟨m, i3, h3, k3, w3, _⟩ := below_dr w2 h2 12 (by decide) (by decide)
 obtain ⟨va, ia, ha, kA, wa, _⟩ := int_dr w3 h3 [-1, st, 9223372036854775807] (by simp) (by simp) (f := .sp 1 0) rfl
 obtain ⟨vb, ib, hb, kB, wb, _⟩ := int_dr w3 h3 [-1, 5, 6] (by simp) (by simp) (f := .sp 1 0) rfl
 obtain ⟨vc, ic, hc, kC, wc, _⟩ := int_dr w3 h3 [0, 6, 7] (by simp) (by simp) (f := .sp 1 0) rfl
 rw [show row fI [-1, st, 9223372036854775807] = [[.int .i64 (-1)], [.int .i64 st], [.int .i64 9223372036854775807]] from rfl] at kA
 rw [show row fI [-1, 5, 6] = [[.int .i64 (-1)], [.int .i64 5], [.int .i64 6]] from rfl] at kB
 rw [show row fI [0, 6, 7] = [[.int .i64 0], [.int .i64 6], [.int .i64 7]] from rfl] at kC
 obtain ⟨eb, heb⟩ := nm (row fU Bs)
 obtain ⟨ee, hee⟩ := nm (row fB es)
 obtain ⟨em, hem⟩ := nm (row fMove l)
 obtain ⟨emA, hemA⟩ := nm (row fMove (pre ++ (⟨x1, x2, x3, va⟩ : Move) :: suf))
 obtain ⟨emB, hemB⟩ := nm (row fMove (pre ++ (⟨x1, x2, vb, x4⟩ : Move) :: suf))
 obtain ⟨emC, hemC⟩ := nm (row fMove (l ++ [(⟨x1, x2, x3, x4⟩ : Move)]))
 obtain ⟨y2, hy2⟩ := nm (!x2)
 obtain ⟨emD, hemD⟩ := nm (row fMove (l ++ [(⟨x1, y2, x3, x4⟩ : Move)]))
 obtain ⟨eeE, heeE⟩ := nm (row fB (es ++ [true]))
 rw [← hee, ← hem] at k1
 rw [← heb] at k1 k2 k3 kA kB kC ⊢
 obtain ⟨ll, hll⟩ := nm (l.length : Int)
 rw [← hll] at k2
 refine fix_bxE (fn := ir3365) tb_3365 rfl rfl rfl (by decide) ?_; intro Q W hW hQ; simp only [List.map_nil, ir3365]
 have hW' : ∀ st ee em i' h' es l, ee = row fB es → em = row fMove l → CW Bs i' → es.length ≤ 5 → l.length ≤ 9 → l ≠ [] → W (some ⟨[sMach st ee em (.ow false) (.ow false)], [], some (vCur eb i' h')⟩) := fun st ee em i' h' es l e1 e2 q1 q2 q3 q5 => hW _ ⟨st, es, l, i', h', by rw [e1, e2], q1, q2, q3, q5⟩
 clear hW
 intro add sub mul arith eq ne lt le gt ge neg conv mn mx not beq len at' ln bd cut app allS isNil mks set o hP F ho
 rw [← ho] at k1 k2 k3 kA kB kC
 have le : len em = ll := by rw [hll]; exact F.len_at hem
 have g1 : eq ll 0 = false := by
  rw [F.eq, hll, decide_eq_false_iff_not]; omega
 have gn : not x2 = y2 := by rw [F.not, hy2]
 have s0 : ∀ x1 x2 x3 x4, allS [[.int .i64 x1, .bool x2, .int .i64 x3, .int .i64 x4]] = true := fun _ _ _ _ => by rw [F.allS]; rfl
 have t0 : ∀ x, allS [[.bool x]] = true := fun _ => by rw [F.allS]; rfl
 obtain ⟨ix, hix⟩ := nm (pre.length * 4)
 have pA : at' 4 em ii = some (ix, [.int .i64 x1, .bool x2, .int .i64 x3, .int .i64 x4]) := by rw [hix]; exact F.get (by unfold At; omega) hem hls (fun _ => rfl) (by decide)
 have pA1 : set em (Nat.succ (Nat.succ (Nat.succ ix))) [.int .i64 va] = some emA := by rw [F.set, hem, hls, hemA, hix]; exact set_fd (j := 3) (fun _ => rfl) (by decide) rfl
 have pA2 : set em (Nat.succ (Nat.succ ix)) [.int .i64 vb] = some emB := by rw [F.set, hem, hls, hemB, hix]; exact set_fd (j := 2) (fun _ => rfl) (by decide) rfl
 have pC : app 4 em [[.int .i64 x1, .bool x2, .int .i64 x3, .int .i64 x4]] = some emC := by rw [hemC]; exact F.push hem (fun _ => rfl) rfl (by omega)
 have pD : app 4 em [[.int .i64 x1, .bool y2, .int .i64 x3, .int .i64 x4]] = some emD := by rw [hemD]; exact F.push hem (fun _ => rfl) rfl (by omega)
 have pE : app 1 ee [[.bool true]] = some eeE := by rw [heeE]; exact F.push hee (fun _ => rfl) rfl (by omega)
 have hlA : (pre ++ (⟨x1, x2, x3, va⟩ : Move) :: suf).length ≤ 9 ∧ (pre ++ (⟨x1, x2, vb, x4⟩ : Move) :: suf).length ≤ 9 := by
  have e := congrArg List.length hls
  simp only [List.length_append, List.length_cons] at e ⊢
  omega
 have hWA := hW' st ee emA ia ha es _ hee hemA wa (by omega) hlA.1 (by simp)
 have hWB := hW' st ee emB ib hb es _ hee hemB wb (by omega) hlA.2 (by simp)
 have hWC := hW' st ee emC i3 h3 es _ hee hemC w3 (by omega) (by simp; omega) (by simp)
 have hWD := hW' st ee emD i3 h3 es _ hee hemD w3 (by omega) (by simp; omega) (by simp)
 have hWE := hW' st eeE em i3 h3 _ l heeE hem w3 (by simp; omega) (by omega) hne
 have hWF := hW' st ee em i3 h3 es l hee hem w3 (by omega) (by omega) hne
 have hWG := hW' vc ee em ic hc es l hee hem wc (by omega) (by omega) hne
 cbv
 rw [k1]; cbv
 rw [le, g1]; cbv
 rw [le, k2]; cbv
 rw [k3]; cbv
 refine both (fun e => ?_) (fun e => ?_) <;> rw [e] <;> cbv
 ·rw [kA]; cbv
  rw [pA]; cbv
  rw [pA1]; cbv
  rw [hQ]; cbv
  exact hWA
 refine both (fun e => ?_) (fun e => ?_) <;> rw [e] <;> cbv
 ·rw [kB]; cbv
  rw [pA]; cbv
  rw [pA2]; cbv
  rw [hQ]; cbv
  exact hWB
 refine both (fun e => ?_) (fun e => ?_) <;> rw [e] <;> cbv
 ·rw [pA]; cbv
  rw [s0]; cbv
  rw [pC]; cbv
  rw [hQ]; cbv
  exact hWC
 refine both (fun e => ?_) (fun e => ?_) <;> rw [e] <;> cbv
 ·rw [pA]; cbv
  rw [gn]; cbv
  rw [s0]; cbv
  rw [pD]; cbv
  rw [hQ]; cbv
  exact hWD
 refine both (fun e => ?_) (fun e => ?_) <;> rw [e] <;> cbv
 ·rw [kC]; cbv
  rw [hQ]; cbv
  exact hWG
 refine both (fun e => ?_) (fun e => ?_) <;> rw [e] <;> cbv
 ·rw [t0]; cbv
  rw [pE]; cbv
  rw [hQ]; cbv
  exact hWE
 ·rw [hQ]; cbv
  exact hWF
theorem dr325 (Bs : List Int) (hl : Bs.length ≤ 1048576) :
  ∃ r, fix Tb md 325 [R (row fU Bs) (.sp 0 0)] = some r ∧ ∃ st es l b st' es' l' b', r = ⟨[sMach st (row fB es) (row fMove l) (.ow false) (flT b), sMach st' (row fB es') (row fMove l') (.ow false) (flT b')], [], none⟩ ∧ (es.length ≤ 5 ∧ l.length ≤ 12) ∧ (es'.length ≤ 5 ∧ l'.length ≤ 12) := by
 have k1 := ok246 Bs hl
 obtain ⟨h, hh⟩ := nm (newC Bs).h
 rw [← hh] at k1
 obtain ⟨_, k2, st, es, l, i1, h1, rfl, w1, a1, a2, a3, a4⟩ := dr3363 (CW.new hl) h
 obtain ⟨_, k3, l', b, i2, h2, rfl, w2, c1⟩ := dr3364 w1 h1 st es l a1 a2 a3 a4 (f := .sp 1 1) (g := .sp 1 2) rfl rfl
 obtain ⟨sw, i3, h3, k4, w3, _, _⟩ := below_dr w2 h2 6 (by decide) (by decide)
 obtain ⟨_, k5, st5, es5, l5, i5, h5, rfl, w5, d1, d2, _⟩ := dr3365 w3 h3
 obtain ⟨eb, heb⟩ := nm (row fU Bs)
 obtain ⟨ee, hee⟩ := nm (row fB es)
 obtain ⟨em, hem⟩ := nm (row fMove l)
 obtain ⟨em', hem'⟩ := nm (row fMove l')
 obtain ⟨ee5, hee5⟩ := nm (row fB es5)
 obtain ⟨em5, hem5⟩ := nm (row fMove l5)
 rw [← heb] at k1 k2 k3 k4 k5 ⊢
 rw [← hee, ← hem] at k2 k3
 rw [← hem'] at k3
 rw [← hee5, ← hem5] at k5
 refine fix_fnE (fn := ir325) tb_325 rfl rfl (by decide) rfl ?_; intro Q W hW hQ
 simp only [shutArgs, shutS, List.map_cons, List.map_nil, ir325, shut_in (show inFl (.sp 0 0) = true from rfl), List.head?_nil, reduceCtorEq, if_false] at hQ ⊢
 have hA : W (some ⟨[sMach st ee em (.ow false) (.ow false), sMach st ee em' (.ow false) (flT b)], [], none⟩) := hW _ ⟨st, es, l, false, st, es, l', b, by rw [hee, hem, hem']; rfl, ⟨by omega, by omega⟩, ⟨by omega, c1⟩⟩
 have hB : W (some ⟨[sMach st ee em' (.ow false) (flT b), sMach st5 ee5 em5 (.ow false) (.ow false)], [], none⟩) := hW _ ⟨st, es, l', b, st5, es5, l5, false, by rw [hee, hem', hee5, hem5]; rfl, ⟨by omega, c1⟩, ⟨d1, by omega⟩⟩
 have hC : W (some ⟨[sMach st ee em' (.ow false) (flT b), sMach st ee em (.ow false) (.ow false)], [], none⟩) := hW _ ⟨st, es, l', b, st, es, l, false, by rw [hee, hem, hem']; rfl, ⟨by omega, c1⟩, ⟨by omega, by omega⟩⟩
 clear hW
 intro add sub mul arith eq ne lt le gt ge neg conv mn mx not beq len at' ln bd cut app allS isNil mks set o hP F ho
 rw [← ho] at k1 k2 k3 k4 k5
 cases b
 all_goals
  cbv
  rw [k1]; cbv
  rw [k2]; cbv
  rw [k3]; cbv
  rw [k4]; cbv
  refine both (fun e => ?_) (fun e => ?_) <;> rw [e] <;> cbv
  ·rw [hQ]; cbv
   exact hA
  refine both (fun e => ?_) (fun e => ?_) <;> rw [e] <;> cbv
  ·rw [k5]; cbv
   rw [hQ]; cbv
   exact hB
  ·rw [hQ]; cbv
   exact hC
theorem dr212 (Bs : List Int) (hl : Bs.length ≤ 1048576) :
  ∃ r, fix Tb md 212 [R (row fU Bs) (.sp 0 0)] = some r ∧ ∃ st es l b st' es' l' b', r = ⟨[sMach st (row fB es) (row fMove l) (.ow false) (flT b), sMach st' (row fB es') (row fMove l') (.ow false) (flT b')], [], none⟩ ∧ (es.length ≤ 5 ∧ l.length ≤ 12) ∧ (es'.length ≤ 5 ∧ l'.length ≤ 12) := by
 obtain ⟨_, k1, st, es, l, b, st', es', l', b', rfl, b1, b2⟩ := dr325 Bs hl
 obtain ⟨eb, heb⟩ := nm (row fU Bs)
 obtain ⟨ee, hee⟩ := nm (row fB es)
 obtain ⟨em, hem⟩ := nm (row fMove l)
 obtain ⟨ee', hee'⟩ := nm (row fB es')
 obtain ⟨em', hem'⟩ := nm (row fMove l')
 rw [← heb] at k1 ⊢
 rw [← hee, ← hem, ← hee', ← hem'] at k1
 refine fix_fnE (fn := ir212) tb_212 rfl rfl (by decide) rfl ?_; intro Q W hW hQ
 simp only [shutArgs, shutS, List.map_cons, List.map_nil, ir212, shut_in (show inFl (.sp 0 0) = true from rfl), List.head?_nil, reduceCtorEq, if_false] at hQ ⊢
 have hA : W (some ⟨[sMach st ee em (.ow false) (flT b), sMach st' ee' em' (.ow false) (flT b')], [], none⟩) := hW _ ⟨st, es, l, b, st', es', l', b', by rw [hee, hem, hee', hem'], b1, b2⟩
 clear hW
 intro add sub mul arith eq ne lt le gt ge neg conv mn mx not beq len at' ln bd cut app allS isNil mks set o hP F ho
 rw [← ho] at k1
 cases b <;> cases b'
 all_goals
  cbv
  rw [k1]; cbv
  rw [hQ]; cbv
  exact hA
theorem ok383 (g : Nat) (hg : md g = []) (k0 k1 k2 : V) (p : Move → Bool) (l : List Move) (hl : l.length ≤ 1099511627776) (hp : ∀ x ∈ l, fix Tb md g [sMove x, ⟨.val, [⟨k0, .sh⟩]⟩, ⟨.val, [⟨k1, .sh⟩]⟩, ⟨.val, [⟨k2, .sh⟩]⟩] = some ⟨[B (p x)], [], none⟩) {f0 : Fl} (h0 : inFl f0 = true) :
  fix Tb md 383 [R (row fMove l) f0, ⟨.val, [⟨.fn g [k0, k1, k2], .sh⟩]⟩] = some ⟨[I (ixOf p l 0)], [], none⟩ := by
 generalize hm : md = m at hg hp ⊢
 refine fix_fn (fn := ir383) tb_383 rfl rfl (by decide) rfl ?_; simp only [shutArgs, shutS, List.map_cons, List.map_nil, ir383, shut_in h0, List.head?_nil, reduceCtorEq, if_false, sExt, sHello, sAnswer, sEdit, sDeal, sBox, sDialed, sKnown, sMach, sMove]
 generalize hr : (⟨_, [], none⟩ : Ret) = r
 obtain ⟨ea, hea⟩ := nm (row fMove l)
 rw [← hea]
 intro add sub mul arith eq ne lt le gt ge neg conv mn mx not beq len at' ln bd cut app allS isNil mks set o hP F ho
 have la := F.len_at hea
 cbv
 refine loop_ind hP (σ := List Move × List Move × Int × Option Int) (fun s => match s.2.2.2 with | none => [(0, R ea .sh), (1, ⟨.val, [⟨.fn g [k0, k1, k2], .sh⟩]⟩), (4, I 0), (7, I (len ea)), (8, I s.2.2.1)] | some j => [(0, R ea .sh), (1, ⟨.val, [⟨.fn g [k0, k1, k2], .sh⟩]⟩), (4, I 0), (5, I j), (7, I (len ea)), (8, I s.2.2.1)])
  (fun s => At s.2.2.1 s.2.1.length ∧ l = s.2.1 ++ s.1 ∧ ixOf p s.1 (s.2.1.length : Int) = ixOf p l 0) (fun s => s.1.length) (l, [], 0, none) rfl ⟨rfl, rfl, rfl⟩ ?_
 rintro ⟨suf, pre, i, j⟩ ⟨hi, hl', hx⟩ ih
 simp only at hi hl' hx ih
 have hi' : i = (pre.length : Int) := hi
 rw [← hi'] at hx
 cases j <;> cbv <;> (
  cases suf with
  | nil =>
   rw [F.lt_f hi la (by simp [hl'])]; cbv
   rw [← hr, ← hx]; rfl
  | cons x suf =>
   rw [F.lt_t hi la (by simp [hl'])]; cbv
   obtain ⟨ix, hix⟩ := nm (pre.length * 4)
   rw [show at' 4 ea i = some (ix, [.int .i64 x.src, .bool x.send, .int .i64 x.msg, .int .i64 x.dst]) by rw [hix]; exact F.get hi hea hl' (fun _ => rfl) (by decide)]; cbv
   obtain ⟨v, hv⟩ := nm (p x)
   have c1 : o g [sMove x, ⟨.val, [⟨k0, .sh⟩]⟩, ⟨.val, [⟨k1, .sh⟩]⟩, ⟨.val, [⟨k2, .sh⟩]⟩] = some ⟨[B v], [], none⟩ := by rw [ho, hv]; exact hp x (by rw [hl']; simp)
   rw [hg]; cbv
   rw [c1]; cbv
   have hx1 : ixOf p (x :: suf) i = if p x = true then i else ixOf p suf (i + 1) := rfl
   rw [hx1] at hx
   refine both (fun c => ?_) (fun c => ?_) <;> rw [c] <;> cbv
   ·rw [← hv, if_pos c] at hx
    rw [← hr, ← hx]
   ·rw [← hv, if_neg (by simp [c])] at hx
    refine ih (suf, pre ++ [x], add .i64 i 1, some i) ⟨at_len (F.inc hi (by simp [hl'] at hl; omega)) (by simp), by simp [hl'], ?_⟩ (by simp)
    rw [← hx, hi']
    simp)
theorem ok384 (x : Move) (s : Int) (d : Bool) (n : Int) : fix Tb md 384 [sMove x, ⟨.val, [⟨.ptr () [.int .i64 s], .sh⟩]⟩, ⟨.val, [⟨.ptr () [.bool d], .sh⟩]⟩, ⟨.val, [⟨.ptr () [.int .i64 n], .sh⟩]⟩] = some ⟨[B (isMv s d n x)], [], none⟩ := by
 obtain ⟨x1, x2, x3, x4⟩ := x
 generalize hr : (⟨_, [], none⟩ : Ret) = r
 unfold isMv at hr
 simp only at hr
 refine fix_fn2 (fn := ir384) tb_384 rfl rfl (by decide) rfl ?_; intro Q hQ; simp only [shutArgs, shutS, List.map_cons, List.map_nil, ir384, List.head?_nil, reduceCtorEq, if_false, sExt, sHello, sAnswer, sEdit, sDeal, sBox, sDialed, sKnown, sMach, sMove]
 intro add sub mul arith eq ne lt le gt ge neg conv mn mx not beq len at' ln bd cut app allS isNil mks set o hP F ho
 cbv
 have h1 : eq x1 s = decide (x1 = s) := F.eq ..
 have h2 : beq x2 d = decide (x2 = d) := F.beq ..
 have h3 : eq x3 n = decide (x3 = n) := F.eq ..
 rw [h1]
 refine both (fun c => ?_) (fun c => ?_) <;> rw [c] <;> cbv
 ·rw [h2]
  refine both (fun c2 => ?_) (fun c2 => ?_) <;> rw [c2] <;> cbv
  ·rw [h3, hQ]; cbv
   rw [← hr]; simp only [c, c2, Bool.true_and]
  ·rw [hQ]; cbv
   rw [← hr]; simp only [c, c2, Bool.true_and, Bool.false_and]
 ·rw [hQ]; cbv
  rw [← hr]; simp only [c, Bool.false_and]
theorem ok375 (st : Int) (es : List Bool) (l : List Move) (s : Int) (d : Bool) (n : Int) (hl : l.length ≤ 1099511627776) {f0 f1 : Fl} (h0 : inFl f0 = true) (h1 : inFl f1 = true) : fix Tb md 375 [sMach st (row fB es) (row fMove l) f0 f1, I s, B d, I n] = some ⟨[I (mvOf l s d n)], [], none⟩ := by
 obtain ⟨v, hv⟩ := nm (mvOf l s d n)
 rw [← hv]
 generalize hr : (⟨_, [], none⟩ : Ret) = r
 obtain ⟨ea, hea⟩ := nm (row fMove l)
 obtain ⟨eb, heb⟩ := nm (row fB es)
 rw [← hea, ← heb]
 refine fix_fn2 (fn := ir375) tb_375 rfl rfl (by decide) rfl ?_; intro Q hQ; simp only [shutArgs, shutS, List.map_cons, List.map_nil, ir375, shut_in h0, shut_in h1, List.head?_nil, reduceCtorEq, if_false, sExt, sHello, sAnswer, sEdit, sDeal, sBox, sDialed, sKnown, sMach, sMove]
 intro add sub mul arith eq ne lt le gt ge neg conv mn mx not beq len at' ln bd cut app allS isNil mks set o hP F ho
 have c1 : o 383 [R ea (.sp 0 0), ⟨.val, [⟨.fn 384 [.ptr () [.int .i64 s], .ptr () [.bool d], .ptr () [.int .i64 n]], .sh⟩]⟩] = some ⟨[I v], [], none⟩ := by rw [ho, hv, hea]; exact ok383 384 rfl _ _ _ (isMv s d n) l hl (fun x _ => ok384 x s d n) rfl
 cbv
 rw [c1]; cbv
 rw [hQ]; cbv
 exact congrArg some hr
end Go.Vm
