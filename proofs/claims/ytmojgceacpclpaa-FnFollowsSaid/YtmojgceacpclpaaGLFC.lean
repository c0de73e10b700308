/- What the functions answer. -/
import Derived.Test.YtmojgceacpclpaaGLTab
import Derived.Test.YtmojgceacpclpaaGLFA
import Derived.Test.YtmojgceacpclpaaGLFB
set_option maxHeartbeats 4000000
set_option maxRecDepth 10000
set_option linter.unusedVariables false
set_option linter.unusedSimpArgs false
namespace Go.Vm
theorem dr3363 {Bs : List Int} {i : Int} (w : CW Bs i) (h : Int) : ∃ r, fix Tb md 3363 [sCur (row fU Bs) (.sp 0 0) i h] = some r ∧ ∃ st es l i' h', r = ⟨[sMach st (row fB es) (row fMove l) (.ow false) (.ow false)], [], some (vCur (row fU Bs) i' h')⟩ ∧ CW Bs i' ∧ (1 ≤ st ∧ st ≤ 4) ∧ es.length ≤ 4 ∧ l.length ≤ 8 ∧ l ≠ [] := by
 obtain ⟨n0, i1, h1, k1, w1, r1, r1'⟩ := below_dr w h 4 (by decide) (by decide)
 have kb := fun (n : Int) (h0 : 0 < n) (h1 : n ≤ 256) {i : Int} (w : CW Bs i) (h : Int) => below_dr w h n h0 h1
 have ko := fun (n : Int) (h0 : 0 < n) (h1 : n ≤ 256) {i : Int} (w : CW Bs i) (h : Int) => once_dr w h n h0 h1
 have km := fun (st : Int) (es : List Bool) (l : List Move) (s : Int) (d : Bool) (n : Int) (b1 b2 : Bool) (hl : l.length ≤ 1073741824) => ok366 st es l s d n hl (f0 := match b1 with | true => .sp 0 1 | false => .nl) (f1 := match b2 with | true => .sp 0 2 | false => .nl) (by cases b1 <;> rfl) (by cases b2 <;> rfl)
 obtain ⟨eb, heb⟩ := nm (row fU Bs)
 rw [← heb] at k1 kb ko ⊢
 obtain ⟨st, hst⟩ := nm (1 + n0)
 have hst1 : 1 ≤ st ∧ st ≤ 4 := by omega
 refine fix_bxE (fn := ir3363) tb_3363 rfl rfl rfl (by decide) ?_; intro Q W hW hQ; simp only [List.map_nil, ir3363]
 have hW' : ∀ ee em i' h' es l, ee = row fB es → em = row fMove l → CW Bs i' → es.length ≤ 4 → l.length ≤ 8 → l ≠ [] → W (some ⟨[sMach st ee em (.ow false) (.ow false)], [], some (vCur eb i' h')⟩) := fun ee em i' h' es l e1 e2 q1 q2 q3 q5 => hW _ ⟨st, es, l, i', h', by rw [e1, e2], q1, hst1, q2, q3, q5⟩
 clear hW
 intro add sub mul arith eq ne lt le gt ge neg conv mn mx not beq len at' ln bd cut app allS isNil mks set o hP F ho
 rw [← ho] at k1 kb ko km
 have a1 : add .i64 1 n0 = st := by rw [F.add, hst, wrap64 (by omega) (by omega)]
 have s0 : ∀ x1 x2 x3 x4, allS [[.int .i64 x1, .bool x2, .int .i64 x3, .int .i64 x4]] = true := fun _ _ _ _ => by rw [F.allS]; rfl
 have s9 : ∀ x1 x2 x3 x4, isNil [[.int .i64 x1, .bool x2, .int .i64 x3, .int .i64 x4]] = false := fun _ _ _ _ => by rw [F.isNil]; rfl
 have t0 : ∀ x, allS [[.bool x]] = true := fun _ => by rw [F.allS]; rfl
 have t9 : ∀ x, isNil [[.bool x]] = false := fun _ => by rw [F.isNil]; rfl
 cbv
 rw [k1]; cbv
 rw [a1]
 refine loop_ind2 hP (σ := List Bool × List Move × List (List V) × List (List V) × Int × Int × Int × Option (Bool × Int × Int × Option Move)) (fun s => match s.2.2.2.2.2.2.2 with
  | none => [(0, ⟨.ptr 135 0, []⟩), (2, ⟨.ptr 69 0, []⟩), (3, ⟨.ptr 70 0, []⟩), (4, I s.2.2.2.2.1), (69, ⟨.box (), [⟨.int .i64 0, .sc⟩, ⟨.row () [], .nl⟩, ⟨.row () [], .nl⟩]⟩), (70, ⟨.box (), [⟨.int .i64 st, .sc⟩, ⟨.row () [], .nl⟩, ⟨.row () [], .nl⟩]⟩), (135, ⟨.box (), [⟨.row () eb, .sp 0 0⟩, ⟨.int .i64 s.2.2.2.2.2.1, .sc⟩, ⟨.int .i64 s.2.2.2.2.2.2.1, .sc⟩]⟩)]
  | some (d, n, k, none) => [(0, ⟨.ptr 135 0, []⟩), (2, ⟨.ptr 69 0, []⟩), (3, ⟨.ptr 70 0, []⟩), (4, I s.2.2.2.2.1), (5, B d), (6, I n), (7, I k), (69, ⟨.box (), [⟨.int .i64 0, .sc⟩, ⟨.row () [], .nl⟩, ⟨.row () [], .nl⟩]⟩), (70, ⟨.box (), [⟨.int .i64 st, .sc⟩, ⟨.row () s.2.2.1, .ow false⟩, ⟨.row () s.2.2.2.1, .ow false⟩]⟩), (135, ⟨.box (), [⟨.row () eb, .sp 0 0⟩, ⟨.int .i64 s.2.2.2.2.2.1, .sc⟩, ⟨.int .i64 s.2.2.2.2.2.2.1, .sc⟩]⟩)]
  | some (d, n, k, some x) => [(0, ⟨.ptr 135 0, []⟩), (2, ⟨.ptr 69 0, []⟩), (3, ⟨.ptr 70 0, []⟩), (4, I s.2.2.2.2.1), (5, B d), (6, I n), (7, I k), (8, ⟨.ptr 75 0, []⟩), (69, ⟨.box (), [⟨.int .i64 0, .sc⟩, ⟨.row () [], .nl⟩, ⟨.row () [], .nl⟩]⟩), (70, ⟨.box (), [⟨.int .i64 st, .sc⟩, ⟨.row () s.2.2.1, .ow false⟩, ⟨.row () s.2.2.2.1, .ow false⟩]⟩), (75, ⟨.box (), [⟨.int .i64 x.src, .sc⟩, ⟨.bool x.send, .sc⟩, ⟨.int .i64 x.msg, .sc⟩, ⟨.int .i64 x.dst, .sc⟩]⟩), (135, ⟨.box (), [⟨.row () eb, .sp 0 0⟩, ⟨.int .i64 s.2.2.2.2.2.1, .sc⟩, ⟨.int .i64 s.2.2.2.2.2.2.1, .sc⟩]⟩)])
  (fun s => CW Bs s.2.2.2.2.2.1 ∧ s.2.2.2.2.1 = (s.1.length : Int) ∧ s.2.2.1 = row fB s.1 ∧ s.2.2.2.1 = row fMove s.2.1 ∧ s.1.length ≤ 4 ∧ s.2.1.length ≤ 2 * s.1.length ∧ (s.2.2.2.2.2.2.2 = none → s.1 = []) ∧ ∀ j, s.2.2.2.2.2.2.2 = some j → s.2.1 ≠ []) (fun s => 4 - s.1.length) ([], [], [], [], 0, i1, h1, none) rfl ⟨w1, rfl, rfl, rfl, by simp, by simp, fun _ => rfl, fun _ e => by cases e⟩ ?_
 clear k1 w1 r1 r1' a1
 intro c9 Q1 hc9 hQ1
 rintro ⟨es, l, ee, em, s, i, h, j⟩ ⟨hw, hs, hee, hem, hel, hll, hj0, hj1⟩ ih
 simp only at hw hs hee hem hel hll hj0 hj1 ih
 refine pull fun X hX => ?_
 obtain ⟨v, hv⟩ := nm (decide (s < st))
 have gl : lt s st = v := by rw [F.lt, hv]
 obtain ⟨d, i2, h2, k2, w2⟩ := ko 2 (by decide) (by decide) hw h
 obtain ⟨n3, i3, h3, k3, w3, r3, r3'⟩ := kb 3 (by decide) (by decide) w2 h2
 obtain ⟨n4, i4, h4, k4, w4, r4, r4'⟩ := kb 2 (by decide) (by decide) w3 h3
 obtain ⟨n5, hn5⟩ := nm (1 + n4)
 have a5 : add .i64 1 n4 = n5 := by rw [F.add, hn5, wrap64 (by omega) (by omega)]
 obtain ⟨z, hz⟩ := nm (decide (s = 0))
 have gz : eq s 0 = z := by rw [F.eq, hz]
 have hee0 : j = none → ee = [] := fun e => by rw [hee, hj0 e]; rfl
 have hem0 : j = none → em = [] := fun e => by
  have : l = [] := List.length_eq_zero_iff.1 (by have q := congrArg List.length (hj0 e); simp only [List.length_nil] at q; omega)
  rw [hem, this]; rfl
 have hl0 : j = none → l = [] := fun e => List.length_eq_zero_iff.1 (by have q := congrArg List.length (hj0 e); simp only [List.length_nil] at q; omega)
 subst hX
 apply loop_share hP (st := fun (q : Int × Nat × Int × List Move × List (List V) × Bool × Bool × Int × Int × Option Move) => match q.2.2.2.2.2.2.2.2.2 with
  | none => [(0, ⟨.ptr 135 0, []⟩), (2, ⟨.ptr 69 0, []⟩), (3, ⟨.ptr 70 0, []⟩), (4, I s), (5, B d), (6, I q.1), (7, I q.2.2.1), (69, ⟨.box (), [⟨.int .i64 0, .sc⟩, ⟨.row () [], .nl⟩, ⟨.row () [], .nl⟩]⟩), (70, ⟨.box (), [⟨.int .i64 st, .sc⟩, ⟨.row () ee, flN q.2.2.2.2.2.1⟩, ⟨.row () q.2.2.2.2.1, flN q.2.2.2.2.2.2.1⟩]⟩), (135, ⟨.box (), [⟨.row () eb, .sp 0 0⟩, ⟨.int .i64 q.2.2.2.2.2.2.2.1, .sc⟩, ⟨.int .i64 q.2.2.2.2.2.2.2.2.1, .sc⟩]⟩)]
  | some x => [(0, ⟨.ptr 135 0, []⟩), (2, ⟨.ptr 69 0, []⟩), (3, ⟨.ptr 70 0, []⟩), (4, I s), (5, B d), (6, I q.1), (7, I q.2.2.1), (8, ⟨.ptr 75 0, []⟩), (69, ⟨.box (), [⟨.int .i64 0, .sc⟩, ⟨.row () [], .nl⟩, ⟨.row () [], .nl⟩]⟩), (70, ⟨.box (), [⟨.int .i64 st, .sc⟩, ⟨.row () ee, flN q.2.2.2.2.2.1⟩, ⟨.row () q.2.2.2.2.1, flN q.2.2.2.2.2.2.1⟩]⟩), (75, ⟨.box (), [⟨.int .i64 x.src, .sc⟩, ⟨.bool x.send, .sc⟩, ⟨.int .i64 x.msg, .sc⟩, ⟨.int .i64 x.dst, .sc⟩]⟩), (135, ⟨.box (), [⟨.row () eb, .sp 0 0⟩, ⟨.int .i64 q.2.2.2.2.2.2.2.1, .sc⟩, ⟨.int .i64 q.2.2.2.2.2.2.2.2.1, .sc⟩]⟩)])
  (inv := fun q => (0 ≤ q.1 ∧ q.1 ≤ 2) ∧ q.2.2.1 = (q.2.1 : Int) ∧ (q.2.1 : Int) ≤ q.1 ∧ q.2.2.2.2.1 = row fMove q.2.2.2.1 ∧ q.2.2.2.1.length ≤ 2 * es.length + q.2.1 ∧ (q.2.2.2.2.2.1 = false → es = []) ∧ (q.2.2.2.2.2.2.1 = false → q.2.2.2.1 = []) ∧ CW Bs q.2.2.2.2.2.2.2.1 ∧ v = true ∧ (q.2.2.2.1 = [] → es = [] ∧ q.2.1 = 0) ∧ (es = [] → 1 ≤ q.1)) (μ := fun q => (q.1 - q.2.2.1).toNat)
 ·intro key
  have key0 := fun (e : j = none) (n : Int) (i h : Int) (a0 : 0 ≤ n ∧ n ≤ 2) (a1 : CW Bs i) (a2 : v = true) (a3 : es = [] → 1 ≤ n) => key (n, 0, 0, l, em, false, false, i, h, none) ⟨a0, rfl, a0.1, hem, by simpa using hll, fun _ => hj0 e, fun _ => hl0 e, a1, a2, fun _ => ⟨hj0 e, rfl⟩, a3⟩
  have key1 := fun (dd : Bool) (nn kk : Int) (x : Option Move) (e : j = some (dd, nn, kk, x)) (n : Int) (i h : Int) (a0 : 0 ≤ n ∧ n ≤ 2) (a1 : CW Bs i) (a2 : v = true) (a3 : es = [] → 1 ≤ n) => key (n, 0, 0, l, em, true, true, i, h, x) ⟨a0, rfl, a0.1, hem, by simpa using hll, fun e => by (exact absurd e (by simp)), fun e => by (exact absurd e (by simp)), a1, a2, fun q => absurd q (hj1 _ e), a3⟩
  have hz0 : z = false → es = [] → ∀ n : Int, 1 ≤ n := fun q1 q2 => by rw [hz, decide_eq_false_iff_not, hs, q2] at q1; exact absurd rfl q1
  have fin0 : v = false → 1 ≤ es.length := fun e => by rw [hv, decide_eq_false_iff_not] at e; omega
  rcases j with _ | ⟨dd, nn, kk, _ | x⟩
  ·cbv
   rw [gl]
   refine both (fun e1 => ?_) (fun e1 => ?_) <;> rw [e1] <;> cbv
   ·rw [k2]; cbv
    rw [k3]; cbv
    rw [gz]
    refine both (fun e2 => ?_) (fun e2 => ?_) <;> rw [e2] <;> cbv
    ·rw [k4]; cbv
     rw [a5]
     have := key0 rfl n5 i4 h4 (by omega) w4 e1 (fun _ => by omega)
     rw [hee0 rfl, hem0 rfl] at this
     exact this
    ·have := key0 rfl n3 i3 h3 (by omega) w3 e1 (fun q => hz0 e2 q _)
     rw [hee0 rfl, hem0 rfl] at this
     exact this
   ·exact absurd (fin0 e1) (by rw [hj0 rfl]; simp)
  all_goals
   cbv
   rw [gl]
   refine both (fun e1 => ?_) (fun e1 => ?_) <;> rw [e1] <;> cbv
   ·rw [k2]; cbv
    rw [k3]; cbv
    rw [gz]
    refine both (fun e2 => ?_) (fun e2 => ?_) <;> rw [e2] <;> cbv
    ·rw [k4]; cbv
     rw [a5]
     exact key1 _ _ _ _ rfl n5 i4 h4 (by omega) w4 e1 (fun _ => by omega)
    ·exact key1 _ _ _ _ rfl n3 i3 h3 (by omega) w3 e1 (fun q => hz0 e2 q _)
   ·rw [hQ1]; cbv
    rw [hQ]; cbv
    exact hW' ee em i h es l hee hem hw hel (by omega) (hj1 _ rfl)
 ·clear k2 k3 k4 w2 w3 w4 r3 r3' r4 r4' a5 gz
  intro c8 Q2 hc8 hQ2
  rintro ⟨n, kn, k, l', em', b1, b2, i, h, xo⟩ ⟨hn, hk, hkn, hem', hll', hb1, hb2, hw', hvt, hne, hn1⟩ ih2
  simp only at hn hk hkn hem' hll' hb1 hb2 hw' hne hn1 ih2
  refine pull fun X hX => ?_
  obtain ⟨v2, hv2⟩ := nm (decide (k < n))
  have gl2 : lt k n = v2 := by rw [F.lt, hv2]
  rw [hv, decide_eq_true_eq] at hvt
  have hel3 : es.length ≤ 3 := by omega
  obtain ⟨s', hs'⟩ := nm ((es.length + 1 : Nat) : Int)
  obtain ⟨k', hk'⟩ := nm ((kn + 1 : Nat) : Int)
  have hs1 : add .i64 s 1 = s' := by rw [hs', F.add, hs, wrap64 (by omega) (by omega)]; simp
  have hk1 : add .i64 k 1 = k' := by rw [hk', F.add, hk, wrap64 (by omega) (by omega)]; simp
  obtain ⟨m, i2, h2, k2, w2, r2, r2'⟩ := kb 3 (by decide) (by decide) hw' h
  obtain ⟨tt, i3, h3, k3, w3, r3, r3'⟩ := kb st (by omega) (by omega) w2 h2
  obtain ⟨y, i4, h4, k4, w4⟩ := ko 4 (by decide) (by decide) hw' h
  have kmm := km st es l' s d m b1 b2 (by omega)
  rw [← hee, ← hem'] at kmm
  obtain ⟨u, hu⟩ := nm (mvOf l' s d m)
  rw [← hu] at kmm
  obtain ⟨v3, hv3⟩ := nm (decide (u < 0))
  have gu : lt u 0 = v3 := by rw [F.lt, hv3]
  obtain ⟨z, hz⟩ := nm (decide (n = 0))
  have gz : eq n 0 = z := by rw [F.eq, hz]
  obtain ⟨em2, hem2⟩ := nm (row fMove (l' ++ [(⟨s, d, m, tt⟩ : Move)]))
  have p1 : app 4 em' [[.int .i64 s, .bool d, .int .i64 m, .int .i64 tt]] = some em2 := by rw [hem2]; exact F.push hem' (fun _ => rfl) rfl (by omega)
  obtain ⟨eT, heT⟩ := nm (row fB (es ++ [true]))
  obtain ⟨eY, heY⟩ := nm (row fB (es ++ [y]))
  have p2 : app 1 ee [[.bool true]] = some eT := by rw [heT]; exact F.push hee (fun _ => rfl) rfl (by omega)
  have p3 : app 1 ee [[.bool y]] = some eY := by rw [heY]; exact F.push hee (fun _ => rfl) rfl (by omega)
  have hne2 : v2 = false → l' ≠ [] := fun q e => by
   obtain ⟨q1, q2⟩ := hne e
   have := hn1 q1
   rw [hv2, decide_eq_false_iff_not] at q; omega
  have hu0 : v3 = false → l' ≠ [] := fun q e => by
   rw [hv3, decide_eq_false_iff_not, hu, e] at q
   exact q (by show (-1 : Int) < 0; decide)
  have ihA : ∀ b eb', eb' = row fB (es ++ [b]) → ∀ xo, v2 = false → ∀ i h, CW Bs i → _ := fun b eb' heb' xo hv2f i h hwi => ih (es ++ [b], l', eb', em', s', i, h, some (d, n, k, xo)) ⟨hwi, by simp only [List.length_append, List.length_singleton]; exact hs', heb', hem', by simp; omega, by simp; omega, (fun e => by cases e), fun j e => hne2 hv2f⟩ (by simp; omega)
  have ihN : v2 = true → v3 = false → _ := fun q q3 => ih2 (n, kn + 1, k', l', em', b1, b2, i3, h3, some ⟨s, d, m, tt⟩) ⟨hn, hk', by (rw [hv2, decide_eq_true_eq] at q; show ((kn + 1 : Nat) : Int) ≤ n; omega), hem', by simp only; omega, hb1, hb2, w3, (by rw [hv, decide_eq_true_eq]; exact hvt), fun e => absurd e (hu0 q3), hn1⟩ (by rw [hv2, decide_eq_true_eq] at q; simp only [hk']; omega)
  have ihP : v2 = true → _ := fun q => ih2 (n, kn + 1, k', l' ++ [⟨s, d, m, tt⟩], em2, b1, true, i3, h3, some ⟨s, d, m, tt⟩) ⟨hn, hk', by (rw [hv2, decide_eq_true_eq] at q; show ((kn + 1 : Nat) : Int) ≤ n; omega), hem2, by simp; omega, hb1, (fun e => by cases e), w3, (by rw [hv, decide_eq_true_eq]; exact hvt), fun e => absurd e (by simp), hn1⟩ (by rw [hv2, decide_eq_true_eq] at q; simp only [hk']; omega)
  clear ih ih2
  subst hX
  rcases b1 with _ | _ <;> rcases b2 with _ | _ <;> rcases xo with _ | x
  all_goals
   cbv
   rw [gl2]
   refine both (fun e1 => ?_) (fun e1 => ?_) <;> rw [e1] <;> cbv
   ·rw [k2]; cbv
    rw [k3]; cbv
    rw [kmm]; cbv
    rw [gu]
    refine both (fun e2 => ?_) (fun e2 => ?_) <;> rw [e2] <;> cbv
    ·rw [s0]; cbv
     rw [p1]; cbv
     try (rw [s9]; cbv)
     rw [hk1]
     exact ihP e1
    ·rw [hk1]
     exact ihN e1 e2
   ·try exact absurd (hb2 rfl) (hne2 e1)
    all_goals
     rw [hQ2]; cbv
     rw [gz]
     refine both (fun e2 => ?_) (fun e2 => ?_) <;> rw [e2] <;> cbv
     ·rw [t0]; cbv
      rw [p2]; cbv
      try (rw [t9]; cbv)
      rw [hs1]
      first
      | exact ihA true eT heT none e1 i h hw'
      | exact ihA true eT heT (some x) e1 i h hw'
     ·rw [k4]; cbv
      rw [t0]; cbv
      rw [p3]; cbv
      try (rw [t9]; cbv)
      rw [hs1]
      first
      | exact ihA y eY heY none e1 i4 h4 w4
      | exact ihA y eY heY (some x) e1 i4 h4 w4
end Go.Vm
