/- What the functions answer. -/
import Derived.Test.YtmojgceacpclpaaGLTab
import Derived.Test.YtmojgceacpclpaaGLFA
import Derived.Test.YtmojgceacpclpaaGLFB
import Derived.Test.YtmojgceacpclpaaGLFC
import Derived.Test.YtmojgceacpclpaaGLFD
import Derived.Test.YtmojgceacpclpaaGLFF
set_option maxHeartbeats 4000000
set_option maxRecDepth 10000
set_option linter.unusedVariables false
set_option linter.unusedSimpArgs false
namespace Go.Vm
theorem dr3373 {Bs : List Int} {i : Int} (w : CW Bs i) (h : Int) :
  ∃ r, fix Tb md 3373 [sCur (row fU Bs) (.sp 0 0) i h] = some r ∧ ∃ st es l l' i' h', r = ⟨[sMach st (row fB es) (row fMove l) (.ow false) (.ow false), sMach st (row fB es) (row fMove l') (.ow false) (.ow false)], [], some (vCur (row fU Bs) i' h')⟩ ∧ CW Bs i' ∧ es.length ≤ 5 ∧ l.length ≤ 12 ∧ l'.length ≤ 12 := by
 obtain ⟨_, kl, st, es, l, ia, ha, rfl, wa, hst, hes, hl, hne⟩ := dr3363 w h
 obtain ⟨n0, i1, h1, k1, w1, r1, r1'⟩ := below_dr wa ha 3 (by decide) (by decide)
 have kb := fun (n : Int) (h0 : 0 < n) (h1 : n ≤ 256) {i : Int} (w : CW Bs i) (h : Int) => below_dr w h n h0 h1
 obtain ⟨_, kd, gd, rfl, hgd⟩ := ok380 st es l (by omega) (by omega) (f0 := .sp 0 1) (f1 := .sp 0 2) rfl rfl
 obtain rfl : gd = .ow false := hgd.elim (fun q => absurd q.2 hne) id
 obtain ⟨l2, hl2⟩ := nm (l.map dualM)
 have hl2n : l2.length ≤ 8 := by rw [hl2]; simpa using hl
 rw [← hl2] at kd
 have km := fun (l : List Move) (s : Int) (d : Bool) (n : Int) (hl : l.length ≤ 12) => ok366 st es l s d n (by omega) (f0 := .sp 0 1) (f1 := .sp 0 2) rfl rfl
 obtain ⟨eb, heb⟩ := nm (row fU Bs)
 obtain ⟨ee, hee⟩ := nm (row fB es)
 obtain ⟨em, hem⟩ := nm (row fMove l)
 obtain ⟨em2, hem2⟩ := nm (row fMove l2)
 rw [← hee] at kd km kl
 rw [← hem] at kl
 rw [← hem, ← hem2] at kd
 rw [← heb] at k1 kb kl
 rw [← heb]
 refine fix_bxE (fn := ir3373) tb_3373 rfl rfl rfl (by decide) ?_; intro Q W hW hQ; simp only [List.map_nil, ir3373]
 have hW' : ∀ em' i' h' l', em' = row fMove l' → CW Bs i' → l'.length ≤ 12 → W (some ⟨[sMach st ee em (.ow false) (.ow false), sMach st ee em' (.ow false) (.ow false)], [], some (vCur eb i' h')⟩) := fun em' i' h' l' e1 e2 e3 => hW _ ⟨st, es, l, l', i', h', by rw [e1, hee, hem], e2, by omega, by omega, e3⟩
 clear hW
 intro add sub mul arith eq ne lt le gt ge neg conv mn mx not beq len at' ln bd cut app allS isNil mks set o hP F ho
 rw [← ho] at k1 kb kd km kl
 have s0 : ∀ x1 x2 x3 x4, allS [[.int .i64 x1, .bool x2, .int .i64 x3, .int .i64 x4]] = true := fun _ _ _ _ => by rw [F.allS]; rfl
 have hgt : ∀ (z : Int) (n : Nat), z = (n : Int) → gt z 0 = decide (0 < n) := fun z n e => by rw [F.gt, e]; simp
 have hdec : ∀ (z : Int) (n : Nat), z = ((n + 1 : Nat) : Int) → n ≤ 1000 → sub .i64 z 1 = (n : Int) := fun z n e hn => by rw [F.sub, e, wrap64 (by omega) (by omega)]; omega
 cbv
 rw [kl]; cbv
 rw [kd]; cbv
 rw [k1]; cbv
 refine loop_ind2 hP (σ := Nat × List Move × Int × List (List V) × Int × Int × Option (Int × Int × Option Move)) (fun s => match s.2.2.2.2.2.2 with
  | none => [(0, ⟨.ptr 171 0, []⟩), (2, ⟨.ptr 87 0, []⟩), (3, ⟨.ptr 88 0, []⟩), (4, ⟨.ptr 89 0, []⟩), (5, ⟨.ptr 90 0, []⟩), (6, I s.2.2.1), (87, ⟨.box (), [⟨.int .i64 0, .sc⟩, ⟨.row () [], .nl⟩, ⟨.row () [], .nl⟩]⟩), (88, ⟨.box (), [⟨.int .i64 0, .sc⟩, ⟨.row () [], .nl⟩, ⟨.row () [], .nl⟩]⟩), (89, ⟨.box (), [⟨.int .i64 st, .sc⟩, ⟨.row () ee, .ow false⟩, ⟨.row () em, .ow false⟩]⟩), (90, ⟨.box (), [⟨.int .i64 st, .sc⟩, ⟨.row () ee, .ow false⟩, ⟨.row () s.2.2.2.1, .ow false⟩]⟩), (171, ⟨.box (), [⟨.row () eb, .sp 0 0⟩, ⟨.int .i64 s.2.2.2.2.1, .sc⟩, ⟨.int .i64 s.2.2.2.2.2.1, .sc⟩]⟩)]
  | some (k, sw, none) => [(0, ⟨.ptr 171 0, []⟩), (2, ⟨.ptr 87 0, []⟩), (3, ⟨.ptr 88 0, []⟩), (4, ⟨.ptr 89 0, []⟩), (5, ⟨.ptr 90 0, []⟩), (6, I s.2.2.1), (7, I k), (31, I sw), (87, ⟨.box (), [⟨.int .i64 0, .sc⟩, ⟨.row () [], .nl⟩, ⟨.row () [], .nl⟩]⟩), (88, ⟨.box (), [⟨.int .i64 0, .sc⟩, ⟨.row () [], .nl⟩, ⟨.row () [], .nl⟩]⟩), (89, ⟨.box (), [⟨.int .i64 st, .sc⟩, ⟨.row () ee, .ow false⟩, ⟨.row () em, .ow false⟩]⟩), (90, ⟨.box (), [⟨.int .i64 st, .sc⟩, ⟨.row () ee, .ow false⟩, ⟨.row () s.2.2.2.1, .ow false⟩]⟩), (171, ⟨.box (), [⟨.row () eb, .sp 0 0⟩, ⟨.int .i64 s.2.2.2.2.1, .sc⟩, ⟨.int .i64 s.2.2.2.2.2.1, .sc⟩]⟩)]
  | some (k, sw, some x) => [(0, ⟨.ptr 171 0, []⟩), (2, ⟨.ptr 87 0, []⟩), (3, ⟨.ptr 88 0, []⟩), (4, ⟨.ptr 89 0, []⟩), (5, ⟨.ptr 90 0, []⟩), (6, I s.2.2.1), (7, I k), (8, ⟨.ptr 93 0, []⟩), (31, I sw), (87, ⟨.box (), [⟨.int .i64 0, .sc⟩, ⟨.row () [], .nl⟩, ⟨.row () [], .nl⟩]⟩), (88, ⟨.box (), [⟨.int .i64 0, .sc⟩, ⟨.row () [], .nl⟩, ⟨.row () [], .nl⟩]⟩), (89, ⟨.box (), [⟨.int .i64 st, .sc⟩, ⟨.row () ee, .ow false⟩, ⟨.row () em, .ow false⟩]⟩), (90, ⟨.box (), [⟨.int .i64 st, .sc⟩, ⟨.row () ee, .ow false⟩, ⟨.row () s.2.2.2.1, .ow false⟩]⟩), (93, ⟨.box (), [⟨.int .i64 x.src, .sc⟩, ⟨.bool x.send, .sc⟩, ⟨.int .i64 x.msg, .sc⟩, ⟨.int .i64 x.dst, .sc⟩]⟩), (171, ⟨.box (), [⟨.row () eb, .sp 0 0⟩, ⟨.int .i64 s.2.2.2.2.1, .sc⟩, ⟨.int .i64 s.2.2.2.2.2.1, .sc⟩]⟩)])
  (fun s => s.2.2.1 = (s.1 : Int) ∧ s.2.2.2.1 = row fMove s.2.1 ∧ s.1 ≤ 2 ∧ s.2.1.length ≤ 10 - s.1 ∧ CW Bs s.2.2.2.2.1) (fun s => s.1) (n0.toNat, l2, n0, em2, i1, h1, none) rfl ⟨by simp only; omega, hem2, by simp only; omega, by simp only; omega, w1⟩ ?_
 clear k1 w1 kd kl
 intro c9 Q1 hc9 hQ1
 rintro ⟨n, l', nn, eo, i, h, j⟩ ⟨hnn, heo, hn2, hll, hw⟩ ih
 simp only at hnn heo hn2 hll hw ih
 refine pull fun X hX => ?_
 have lo := F.len_at heo
 have fin0 := hW' eo i h l' heo hw (by omega)
 have g0 : gt nn 0 = decide (0 < n) := hgt nn n hnn
 have g1 : gt (len eo) 0 = decide (0 < l'.length) := hgt _ _ lo
 by_cases hz : n = 0
 ·have g0' : gt nn 0 = false := by rw [g0, hz]; rfl
  clear ih
  subst hX
  rcases j with _ | ⟨k, sw, _ | x⟩
  all_goals
   cbv
   rw [g0']; cbv
   rw [hQ1]; cbv
   rw [hQ]; cbv
   exact fin0
 have g0' : gt nn 0 = true := by rw [g0, decide_eq_true_eq]; omega
 by_cases hz2 : l'.length = 0
 ·have g1' : gt (len eo) 0 = false := by rw [g1, hz2]; rfl
  clear ih
  subst hX
  rcases j with _ | ⟨k, sw, _ | x⟩
  all_goals
   cbv
   rw [g0']; cbv
   rw [g1']; cbv
   rw [hQ1]; cbv
   rw [hQ]; cbv
   exact fin0
 have g1' : gt (len eo) 0 = true := by rw [g1, decide_eq_true_eq]; omega
 clear fin0
 obtain ⟨n, rfl⟩ : ∃ m, n = m + 1 := ⟨n - 1, by omega⟩
 have hnd : sub .i64 nn 1 = (n : Int) := hdec nn n hnn (by omega)
 obtain ⟨nn', hnn'⟩ := nm (n : Int)
 rw [← hnn'] at hnd
 obtain ⟨ll, hll2⟩ := nm (len eo)
 have hll3 : ll = (l'.length : Int) := by rw [hll2]; exact lo
 obtain ⟨ii, i2, h2, k2, w2, r2, r2'⟩ := kb ll (by omega) (by omega) hw h
 obtain ⟨pre, ⟨x1, x2, x3, x4⟩, suf, hls, hpre⟩ : ∃ pre x suf, l' = pre ++ x :: suf ∧ pre.length = ii.toNat := ⟨l'.take ii.toNat, l'[ii.toNat]'(by omega), l'.drop (ii.toNat + 1), by simp, by simp; omega⟩
 have hlen := congrArg List.length hls
 simp only [List.length_append, List.length_cons] at hlen
 have hi : At ii pre.length := by unfold At; omega
 obtain ⟨sw2, i3, h3, k3, w3, r3, r3'⟩ := kb 4 (by decide) (by decide) w2 h2
 obtain ⟨c5, i4, h4, k4, w4, r4, r4'⟩ := kb 4 (by decide) (by decide) w3 h3
 obtain ⟨d5, i5, h5, k5, w5, r5, r5'⟩ := kb st (by omega) (by omega) w3 h3
 have kmm := km l' x1 x2 c5 (by omega)
 obtain ⟨u, hu⟩ := nm (mvOf l' x1 x2 c5)
 obtain ⟨v3, hv3⟩ := nm (decide (u < 0))
 have gu : lt u 0 = v3 := by rw [F.lt, hv3]
 rw [← heo, ← hu] at kmm
 obtain ⟨ix, hix⟩ := nm (pre.length * 4)
 have pA : at' 4 eo ii = some (ix, [.int .i64 x1, .bool x2, .int .i64 x3, .int .i64 x4]) := by rw [hix]; exact F.get hi heo hls (fun _ => rfl) (by decide)
 obtain ⟨pn, hpn⟩ := nm pre.length
 have b1 : bd (ln eo) ii = some pn := by rw [F.ln' heo, hpn]; exact F.bd' hi (by omega)
 obtain ⟨ii1, hii1⟩ := nm (add .i64 ii 1)
 have hi1 : At ii1 (pn + 1) := by rw [hii1, hpn]; exact F.inc hi (by omega)
 have b2 : bd (ln eo) ii1 = some (pn + 1) := by rw [F.ln' heo]; exact F.bd' hi1 (by omega)
 obtain ⟨ec1, hec1⟩ := nm (row fMove pre)
 obtain ⟨ec2, hec2⟩ := nm (row fMove suf)
 obtain ⟨ec3, hec3⟩ := nm (row fMove (pre ++ suf))
 obtain ⟨ec4, hec4⟩ := nm (row fMove (l' ++ [(⟨x1, x2, c5, x4⟩ : Move)]))
 obtain ⟨ec5, hec5⟩ := nm (row fMove (pre ++ (⟨x1, x2, x3, d5⟩ : Move) :: suf))
 have q1 : cut 4 eo pn 0 = some ec1 := by rw [F.cut' heo (fun _ => rfl), hec1, hpn, hls]; simp
 have q2 : cut 4 eo (ln eo) (Nat.succ pn) = some ec2 := by rw [F.cut' heo (fun _ => rfl), F.ln' heo, hec2, List.take_length, hpn, hls, show Nat.succ pre.length = pre.length + 1 from rfl]; simp
 have q3 : allS ec1 = true := F.scal hec1 (fun _ => rfl)
 have q4 : app 4 [] ec1 = some ec1 := F.app_nil hec1 (fun _ => rfl) (by omega)
 have q5 : allS ec2 = true := F.scal hec2 (fun _ => rfl)
 have q6 : app 4 ec1 ec2 = some ec3 := by rw [hec3]; exact F.app' hec1 hec2 (fun _ => rfl) (by omega)
 have q7 : app 4 eo [[.int .i64 x1, .bool x2, .int .i64 c5, .int .i64 x4]] = some ec4 := by rw [hec4]; exact F.push heo (fun _ => rfl) rfl (by omega)
 have q8 : set eo (Nat.succ (Nat.succ (Nat.succ ix))) [.int .i64 d5] = some ec5 := by rw [F.set, heo, hls, hec5, hix]; exact set_fd (j := 3) (fun _ => rfl) (by decide) rfl
 have ihA := fun o => ih (n, pre ++ suf, nn', ec3, i3, h3, some (ii, sw2, o)) ⟨hnn', hec3, by simp only; omega, by simp only [List.length_append]; omega, w3⟩ (by simp)
 have ihB := fun o => ih (n, l', nn', eo, i3, h3, some (ii, sw2, o)) ⟨hnn', heo, by simp only; omega, by simp only; omega, w3⟩ (by simp)
 have ihC := ih (n, l', nn', eo, i4, h4, some (ii, sw2, some ⟨x1, x2, c5, x4⟩)) ⟨hnn', heo, by simp only; omega, by simp only; omega, w4⟩ (by simp)
 have ihD := ih (n, l' ++ [⟨x1, x2, c5, x4⟩], nn', ec4, i4, h4, some (ii, sw2, some ⟨x1, x2, c5, x4⟩)) ⟨hnn', hec4, by simp only; omega, by simp; omega, w4⟩ (by simp)
 have ihE := fun o => ih (n, pre ++ ⟨x1, x2, x3, d5⟩ :: suf, nn', ec5, i5, h5, some (ii, sw2, o)) ⟨hnn', hec5, by simp only; omega, by simp only [List.length_append, List.length_cons]; omega, w5⟩ (by simp)
 clear ih
 subst hX
 rcases j with _ | ⟨k, sw, _ | x⟩
 all_goals
  cbv
  rw [g0']; cbv
  rw [g1']; cbv
  rw [← hll2, k2]; cbv
  rw [k3]; cbv
  refine both (fun e1 => ?_) (fun e1 => ?_) <;> rw [e1] <;> cbv
  ·rw [b1]; cbv
   rw [q1]; cbv
   rw [q3]; cbv
   rw [q4]; cbv
   rw [← hii1, b2]; cbv
   rw [q2]; cbv
   rw [q5]; cbv
   rw [q6]; cbv
   rw [hnd]
   first
   | exact ihA none
   | exact ihA (some x)
  refine both (fun e1 => ?_) (fun e1 => ?_) <;> rw [e1] <;> cbv
  ·rw [pA]; cbv
   rw [k4]; cbv
   rw [kmm]; cbv
   rw [gu]
   refine both (fun e2 => ?_) (fun e2 => ?_) <;> rw [e2] <;> cbv
   ·rw [s0]; cbv
    rw [q7]; cbv
    rw [hnd]
    exact ihD
   ·rw [hnd]
    exact ihC
  refine both (fun e1 => ?_) (fun e1 => ?_) <;> rw [e1] <;> cbv
  ·rw [k5]; cbv
   rw [pA]; cbv
   rw [q8]; cbv
   rw [hnd]
   first
   | exact ihE none
   | exact ihE (some x)
  ·rw [hnd]
   first
   | exact ihB none
   | exact ihB (some x)
end Go.Vm
