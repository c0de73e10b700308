/- What the law answers. -/
import Derived.Test.YtijojkfdbpiimaaGTTab
import Derived.Test.YtijojkfdbpiimaaGTFA
import Derived.Test.YtijojkfdbpiimaaGTFB
set_option maxHeartbeats 4000000
set_option maxRecDepth 10000
set_option linter.unusedVariables false
set_option linter.unusedSimpArgs false
namespace Go.Vm
theorem law31 (code : List Int) :
  fix Tb md 31 [R (row fU code) (.sp 0 0)] = some ⟨[B true], [], none⟩ := by
 have h0 : inFl (.sp 0 0) = true := rfl
 have k1 := ok108 code (f0 := .sp 0 0) rfl
 obtain ⟨v, hv⟩ := nm (decide (1048576 < code.length))
 rw [← hv] at k1
 generalize hr : (⟨_, [], none⟩ : Ret) = r
 obtain ⟨eb, heb⟩ := nm (row fU code)
 rw [← heb] at k1 ⊢
 cases v with
 | true =>
  refine fix_fn2 (fn := ir31) tb_31 rfl rfl (by decide) rfl ?_; intro Q hQ; simp only [shutArgs, shutS, List.map_cons, List.map_nil, ir31, shut_in h0, List.head?_nil, reduceCtorEq, if_false, sExt, sHello, sAnswer, sEdit, sDeal, sBox, sDialed, sKnown]
  intro add sub mul arith eq ne lt le gt ge neg conv mn mx not beq len at' ln bd cut app allS isNil mks set o hP F ho
  rw [← ho] at k1
  cbv
  rw [k1]; cbv
  rw [hQ]; cbv
  exact congrArg some hr
 | false =>
 have hl : code.length ≤ 1048576 := by
  have : ¬ 1048576 < code.length := of_decide_eq_false hv.symm
  omega
 have k2 := ok159 code hl
 have hL := l16A_w (newC code)
 obtain ⟨k, hk⟩ := nm (dfK code)
 obtain ⟨L, hLL⟩ := nm (dfL code)
 obtain ⟨s9, hs9⟩ := nm (dfS code)
 rw [show (l16A (newC code)).1 = L from hLL.symm] at hL
 rw [← hk, ← hLL, ← hs9, ← heb] at k2
 clear hk hLL hs9
 have wL : L.length ≤ 1048576 ∧ ∀ y ∈ L, y.length ≤ 1048576 := ⟨Nat.le_trans hL.1 (by decide), fun y hy => Nat.le_trans (hL.2 y hy) (by decide)⟩
 have wL2 : ∀ y ∈ L, y.length ≤ 1099511627776 := fun y hy => Nat.le_trans (hL.2 y hy) (by decide)
 have k3 := ok144 k L s9 wL (f0 := .sp 1 0) rfl
 have k4 := ok143 k L s9 wL (f0 := .sp 1 0) rfl
 have k5 := fun (k s f : Int) => ok146 k L s f wL (f0 := .sp 1 0) rfl
 have k6 := fun (k s f : Int) => ok145 k L s f wL (f0 := .sp 1 0) rfl
 have k7 := ok90 L L (by omega) wL2 (f0 := .sp 0 0) (f1 := .sp 1 0) rfl rfl
 have kM : ∀ (M : List (List Int)), M.length ≤ 1048576 ∧ (∀ y ∈ M, y.length ≤ 1048576) → ∀ k s f : Int, fix Tb md 146 [I k, R (row fR M) (.sp 1 0), I s, I f] = some ⟨[B (chkV k M s f)], [], none⟩ := fun M w k s f => ok146 k M s f w rfl
 have kN : ∀ (M : List (List Int)), M.length ≤ 1048576 ∧ (∀ y ∈ M, y.length ≤ 1048576) → ∀ k s f : Int, fix Tb md 145 [I k, R (row fR M) (.sp 1 0), I s, I f] = some ⟨[B (chkV k M s f)], [], none⟩ := fun M w k s f => ok145 k M s f w rfl
 have kS := fun (M : List (List Int)) => ok90 L M (by omega) wL2 (f0 := .sp 0 0) (f1 := .sp 1 0) rfl rfl
 have kT := fun (M : List (List Int)) => ok89 L M (by omega) wL2 (f0 := .sp 0 0) (f1 := .sp 1 0) rfl rfl
 obtain ⟨f, hf⟩ := nm (finV k L s9)
 rw [← hf] at k3 k4
 have c1 : f ≠ 0 → chkV k L s9 f = true := fun q => by unfold chkV; rw [← hf]; simp [q]
 have c2 : chkV k L s9 0 = false := by unfold chkV; rfl
 clear hf
 obtain ⟨eL, heL⟩ := nm (row fR L)
 rw [← heL] at k2 k3 k4 k5 k6 k7 kS kT
 rw [decide_eq_true (rfl : L = L)] at k7
 refine fix_fn2 (fn := ir31) tb_31 rfl rfl (by decide) rfl ?_; intro Q hQ; simp only [shutArgs, shutS, List.map_cons, List.map_nil, ir31, shut_in h0, List.head?_nil, reduceCtorEq, if_false, sExt, sHello, sAnswer, sEdit, sDeal, sBox, sDialed, sKnown]
 intro add sub mul arith eq ne lt le gt ge neg conv mn mx not beq len at' ln bd cut app allS isNil mks set o hP F ho
 have lL := F.len_at heL
 rw [← ho] at k1 k2 k3 k4 k5 k6 k7 kM kN kS kT
 have g1 : eq f 0 = decide (f = 0) := F.eq ..
 cbv
 rw [k1]; cbv
 rw [k2]; cbv
 rw [k3]; cbv
 refine both (fun d1 => ?_) (fun d1 => ?_) <;> rw [d1] <;> cbv
 ·rw [g1, decide_eq_true_eq] at d1
  subst d1
  rw [k5, c2]; cbv
  rw [show not false = true by rw [F.not]; rfl]; cbv
  rw [k4]; cbv
  rw [F.eq_t rfl, hQ]; cbv
  exact congrArg some hr
 rw [g1, decide_eq_false_iff_not] at d1
 rw [k5, c1 d1]; cbv
 rw [show not true = false by rw [F.not]; rfl]; cbv
 obtain ⟨s2, hs2⟩ := nm (sub .i64 1 s9)
 obtain ⟨x1, hx1⟩ := nm (chkV k L s2 f)
 rw [← hs2, k5, ← hx1]; cbv
 obtain ⟨kk, hkk⟩ := nm (add .i64 k 1)
 obtain ⟨x2, hx2⟩ := nm (chkV kk L s9 f)
 apply share2 (P := True)
 case main =>
  intro key
  refine both (fun e => ?_) (fun e => ?_) <;> rw [e] <;> cbv
  ·rw [← hs2, k6, ← hx1, e]; cbv
   rw [show not true = false by rw [F.not]; rfl]; cbv
   rw [← hkk, k5, ← hx2]; cbv
   refine both (fun e => ?_) (fun e => ?_) <;> rw [e] <;> cbv
   ·rw [← hkk, k6, ← hx2, e]; cbv
    rw [show not true = false by rw [F.not]; rfl]; cbv
    exact key trivial
   ·exact key trivial
  ·rw [← hkk, k5, ← hx2]; cbv
   refine both (fun e => ?_) (fun e => ?_) <;> rw [e] <;> cbv
   ·rw [← hkk, k6, ← hx2, e]; cbv
    rw [show not true = false by rw [F.not]; rfl]; cbv
    exact key trivial
   ·exact key trivial
 case proof =>
 intro _
 clear k1 k2 k3 k4 k5 k6
 refine loop_ind2 hP (σ := List (List Int) × List (List Int) × Int × Option (List (List V) × Int)) (fun s => match s.2.2.2 with
  | none => [(0, R eb .sh), (2, B false), (3, I k), (4, R eL (.ow false)), (5, I s9), (6, I f), (7, I s.2.2.1)]
  | some j => [(0, R eb .sh), (2, B false), (3, I k), (4, R eL (.ow false)), (5, I s9), (6, I f), (7, I s.2.2.1), (8, R j.1 (.ow false)), (9, I j.2)]) (fun s => At s.2.2.1 s.2.1.length ∧ L = s.2.1 ++ s.1) (fun s => s.1.length) (L, [], 0, none) rfl ⟨rfl, rfl⟩ ?_
 intro c9 Q1 hc9 hQ1
 rintro ⟨suf, pre, i, j⟩ ⟨hi, hl'⟩ ih
 simp only at hi hl' ih
 rcases j with _ | ⟨j1, j2⟩
 all_goals
  cbv
  cases suf with
  | nil =>
   rw [F.lt_f hi lL (by simp [hl'])]; cbv
   rw [hQ1]; cbv
   rw [k7]; cbv
   rw [hQ]; cbv
   exact congrArg some hr
  | cons x suf =>
   rw [F.lt_t hi lL (by simp [hl'])]; cbv
   refine loop_ind2 hP (σ := List (List Int) × List (List Int) × List (List V) × Int) (fun s => [(0, R eb .sh), (2, B false), (3, I k), (4, R eL (.ow false)), (5, I s9), (6, I f), (7, I i), (8, R s.2.2.1 (.ow false)), (9, I s.2.2.2)]) (fun s => At s.2.2.2 s.2.1.length ∧ L = s.2.1 ++ s.1 ∧ s.2.2.1 = row fR s.2.1) (fun s => s.1.length) (L, [], [], 0) rfl ⟨rfl, rfl, rfl⟩ ?_
   intro c8 Q2 hc8 hQ2
   rintro ⟨suf2, pre2, em, m⟩ ⟨hm, hl2, hem⟩ ih2
   simp only at hm hl2 hem ih2
   cbv
   cases suf2 with
   | cons y suf2 =>
    have hpl : pre2.length ≤ 13 := by have := hL.1; rw [hl2] at this; simp at this; omega
    have hy : y.length ≤ 3 := hL.2 y (by rw [hl2]; simp)
    obtain ⟨ix, hix⟩ := nm (pre2.length * 1)
    obtain ⟨e1, he1⟩ := nm (row fI y)
    obtain ⟨em', hem'⟩ := nm (row fR (pre2 ++ [y]))
    have p0 : at' 1 eL m = some (ix, [.row () e1]) := by rw [hix, he1]; exact F.get hm heL hl2 (fun _ => rfl) (by decide)
    have p1 : allS e1 = true := F.scal he1 (fun _ => rfl)
    have p2 : app 1 [] e1 = some e1 := F.app_nil he1 (fun _ => rfl) (by omega)
    have p3 : allS [[.row () e1]] = false := by rw [F.allS]; rfl
    have p4 : app 1 em [[.row () e1]] = some em' := by rw [hem', he1]; exact F.push (f := fR) hem (fun _ => rfl) rfl (by omega)
    rw [F.lt_t hm lL (by simp [hl2])]; cbv
    rw [p0]; cbv
    rw [p1]; cbv
    rw [p2]; cbv
    rw [p3]; cbv
    rw [p4]; cbv
    exact ih2 (suf2, pre2 ++ [y], em', add .i64 m 1) ⟨at_len (F.inc hm (by omega)) (by simp), by rw [hl2]; simp, hem'⟩ (by simp)
   | nil =>
    have hpp : L = pre2 := by rw [hl2, List.append_nil]
    rw [← hpp] at hem
    rw [F.lt_f hm lL (by simp [hl2])]; cbv
    rw [hQ2]; cbv
    have hpl : pre.length ≤ 13 := by have := hL.1; rw [hl'] at this; simp at this; omega
    have hx : x.length ≤ 3 := hL.2 x (by rw [hl']; simp)
    have wM : (pre ++ (x ++ [0]) :: suf).length ≤ 1048576 ∧ ∀ y ∈ pre ++ (x ++ [0]) :: suf, y.length ≤ 1048576 := by
     refine ⟨?_, ?_⟩
     ·have := hL.1
      rw [hl'] at this
      simp only [List.length_append, List.length_cons] at this ⊢
      omega
     ·intro y hy
      rcases List.mem_append.1 hy with h | h
      ·exact wL.2 y (by rw [hl']; simp [h])
      rcases List.mem_cons.1 h with h | h
      ·rw [h]; simp; omega
      ·exact wL.2 y (by rw [hl']; simp [h])
    obtain ⟨z, hz⟩ := nm (chkV k (pre ++ (x ++ [0]) :: suf) s9 f)
    obtain ⟨w, hw⟩ := nm (decide (L = pre ++ (x ++ [0]) :: suf))
    have km := kM _ wM k s9 f
    have kn := kN _ wM k s9 f
    have ks := kS (pre ++ (x ++ [0]) :: suf)
    have kt := kT (pre ++ (x ++ [0]) :: suf)
    obtain ⟨ix, hix⟩ := nm (pre.length * 1)
    obtain ⟨ex, hex⟩ := nm (row fI x)
    obtain ⟨ey, hey⟩ := nm (row fI (x ++ [0]))
    obtain ⟨em2, hem2⟩ := nm (row fR (pre ++ (x ++ [0]) :: suf))
    rw [← hz, ← hem2] at km kn
    rw [← hw, ← hem2] at ks kt
    have q0 : at' 1 em i = some (ix, [.row () ex]) := by rw [hix, hex]; exact F.get hi hem hl' (fun _ => rfl) (by decide)
    have q1 : allS ex = true := F.scal hex (fun _ => rfl)
    have q2 : allS [[.int .i64 0]] = true := by rw [F.allS]; rfl
    have q3 : app 1 ex [[.int .i64 0]] = some ey := by rw [hey]; exact F.push (f := fI) hex (fun _ => rfl) rfl (by omega)
    have q4 : set em ix [.row () ey] = some em2 := by rw [F.set, hem, hix, hey, hem2, hl']; exact set_all (fun _ => rfl) rfl
    have hi' := ih (suf, pre ++ [x], add .i64 i 1, some (em2, m)) ⟨at_len (F.inc hi (by omega)) (by simp), by rw [hl']; simp⟩ (by simp)
    rw [q0]; cbv
    rw [q1]; cbv
    rw [q2]; cbv
    rw [q3]; cbv
    rw [q0]; cbv
    rw [q4]; cbv
    rw [km]; cbv
    refine both (fun e => ?_) (fun e => ?_) <;> rw [e] <;> cbv
    ·rw [kn, e]; cbv
     rw [show not true = false by rw [F.not]; rfl]; cbv
     rw [ks]; cbv
     refine both (fun e => ?_) (fun e => ?_) <;> rw [e] <;> cbv
     ·rw [kt, e]; cbv
      rw [show not true = false by rw [F.not]; rfl]; cbv
      exact hi'
     ·exact hi'
    ·rw [ks]; cbv
     refine both (fun e => ?_) (fun e => ?_) <;> rw [e] <;> cbv
     ·rw [kt, e]; cbv
      rw [show not true = false by rw [F.not]; rfl]; cbv
      exact hi'
     ·exact hi'
theorem fitL_U {vs : List V} (h : FitL [.int .u8] vs) : ∃ n, vs = fU n ∧ True := by
 obtain ⟨v, vs', rfl, h1, h2⟩ := fitL_cons h
 obtain ⟨n, rfl, h3⟩ := fit_int h1
 exact ⟨n, by rw [fitL_nil h2]; rfl, trivial⟩
theorem ans31 : Answers Tb md 31 [(false, [.row [.int .u8]])] := answers_of (by
 intro vs h
 obtain ⟨_, _, rfl, h1, h⟩ := fitL_cons h
 cases fitL_nil h
 obtain ⟨l, rfl, wl⟩ := fit_row (fun _ => fitL_U) h1
 exact law31 l)
end Go.Vm
