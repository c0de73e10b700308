/- What the functions answer. -/
import Derived.Test.YtmojgceacpclpaaGLTab
import Derived.Test.YtmojgceacpclpaaGLFA
import Derived.Test.YtmojgceacpclpaaGLFB
import Derived.Test.YtmojgceacpclpaaGLFC
import Derived.Test.YtmojgceacpclpaaGLFD
import Derived.Test.YtmojgceacpclpaaGLFF
set_option maxHeartbeats 4000000
set_option maxRecDepth 10000
set_option linter.unusedVariables false
set_option linter.unusedSimpArgs false
namespace Go.Vm
def flT (b : Bool) : Fl := match b with | true => .no | false => .ow false
theorem dr3364 {Bs : List Int} {i : Int} (w : CW Bs i) (h : Int) (st : Int) (es : List Bool) (l : List Move) (hst : 1 ≤ st ∧ st ≤ 4) (hes : es.length ≤ 4) (hl : l.length ≤ 8) (hne : l ≠ []) {f g : Fl} (q0 : inFl f = true) (q1 : inFl g = true) :
  ∃ r, fix Tb md 3364 [sCur (row fU Bs) (.sp 0 0) i h, sMach st (row fB es) (row fMove l) f g] = some r ∧ ∃ l' b i' h', r = ⟨[sMach st (row fB es) (row fMove l') (.ow false) (flT b)], [], some (vCur (row fU Bs) i' h')⟩ ∧ CW Bs i' ∧ l'.length ≤ 12 := by
 obtain ⟨n0, i1, h1, k1, w1, r1, r1'⟩ := below_dr w h 3 (by decide) (by decide)
 have kb := fun (n : Int) (h0 : 0 < n) (h1 : n ≤ 256) {i : Int} (w : CW Bs i) (h : Int) => below_dr w h n h0 h1
 have ko := fun (n : Int) (h0 : 0 < n) (h1 : n ≤ 256) {i : Int} (w : CW Bs i) (h : Int) => once_dr w h n h0 h1
 obtain ⟨_, kd, gd, rfl, hgd⟩ := ok380 st es l (by omega) (by omega) (f0 := .sp 0 1) (f1 := .sp 0 2) rfl rfl
 obtain rfl : gd = .ow false := hgd.elim (fun q => absurd q.2 hne) id
 obtain ⟨l1, hl1⟩ := nm (l.map dualM)
 have hne1 : l1 ≠ [] := by rw [hl1]; simpa using hne
 have hl1n : l1.length ≤ 8 := by rw [hl1]; simpa using hl
 obtain ⟨_, ke, ge', rfl, hge⟩ := ok380 st es l1 (by omega) (by omega) (f0 := .sp 0 1) (f1 := .sp 0 2) rfl rfl
 obtain rfl : ge' = .ow false := hge.elim (fun q => absurd q.2 hne1) id
 obtain ⟨l2, hl2⟩ := nm (l1.map dualM)
 have hl2n : l2.length ≤ 8 := by rw [hl2]; simpa using hl1n
 rw [← hl1] at kd
 rw [← hl2] at ke
 have km := fun (l : List Move) (s n : Int) (hl : l.length ≤ 12) => ok366 st es l s false n (by omega) (f0 := .sp 0 1) (f1 := .sp 0 2) rfl rfl
 have kf := fun (l : List Move) (s : Int) (hl : l.length ≤ 12) => ok367 st es l s true (by omega) (f0 := .sp 0 1) (f1 := .sp 0 2) rfl rfl
 obtain ⟨eb, heb⟩ := nm (row fU Bs)
 obtain ⟨ee, hee⟩ := nm (row fB es)
 obtain ⟨em, hem⟩ := nm (row fMove l)
 obtain ⟨em1, hem1⟩ := nm (row fMove l1)
 obtain ⟨em2, hem2⟩ := nm (row fMove l2)
 rw [← hee] at kd ke km kf
 rw [← hem, ← hem1] at kd
 rw [← hem1, ← hem2] at ke
 rw [← heb] at k1 kb ko
 rw [← heb, ← hee, ← hem]
 refine fix_bxE (fn := ir3364) tb_3364 rfl rfl rfl (by decide) ?_; intro Q W hW hQ; simp only [List.map_nil, List.map_cons, shutS, sMach, shut_in q0, shut_in q1, ir3364] at hQ ⊢
 have hW' : ∀ em' b i' h' l', em' = row fMove l' → CW Bs i' → l'.length ≤ 12 → W (some ⟨[sMach st ee em' (.ow false) (flT b)], [], some (vCur eb i' h')⟩) := fun em' b i' h' l' e1 e2 e3 => hW _ ⟨l', b, i', h', by rw [e1], e2, e3⟩
 clear hW
 intro add sub mul arith eq ne lt le gt ge neg conv mn mx not beq len at' ln bd cut app allS isNil mks set o hP F ho
 rw [← ho] at k1 kb ko kd ke km kf
 have s0 : ∀ x1 x2 x3 x4, allS [[.int .i64 x1, .bool x2, .int .i64 x3, .int .i64 x4]] = true := fun _ _ _ _ => by rw [F.allS]; rfl
 have hgt : ∀ (z : Int) (n : Nat), z = (n : Int) → gt z 0 = decide (0 < n) := fun z n e => by rw [F.gt, e]; simp
 have hdec : ∀ (z : Int) (n : Nat), z = ((n + 1 : Nat) : Int) → n ≤ 1000 → sub .i64 z 1 = (n : Int) := fun z n e hn => by rw [F.sub, e, wrap64 (by omega) (by omega)]; omega
 cbv
 rw [kd]; cbv
 rw [ke]; cbv
 rw [k1]; cbv
 refine loop_ind2 hP (σ := Nat × List Move × Int × List (List V) × Int × Int × Option (Int × Move)) (fun s => match s.2.2.2.2.2.2 with
  | none => [(0, ⟨.ptr 197 0, []⟩), (1, sMach st ee em .sh .sh), (3, ⟨.ptr 101 0, []⟩), (4, ⟨.ptr 102 0, []⟩), (5, ⟨.ptr 103 0, []⟩), (6, I s.2.2.1), (101, ⟨.box (), [⟨.int .i64 st, .sc⟩, ⟨.row () ee, .sh⟩, ⟨.row () em, .sh⟩]⟩), (102, ⟨.box (), [⟨.int .i64 0, .sc⟩, ⟨.row () [], .nl⟩, ⟨.row () [], .nl⟩]⟩), (103, ⟨.box (), [⟨.int .i64 st, .sc⟩, ⟨.row () ee, .ow false⟩, ⟨.row () s.2.2.2.1, .ow false⟩]⟩), (197, ⟨.box (), [⟨.row () eb, .sp 0 0⟩, ⟨.int .i64 s.2.2.2.2.1, .sc⟩, ⟨.int .i64 s.2.2.2.2.2.1, .sc⟩]⟩)]
  | some (k, x) => [(0, ⟨.ptr 197 0, []⟩), (1, sMach st ee em .sh .sh), (3, ⟨.ptr 101 0, []⟩), (4, ⟨.ptr 102 0, []⟩), (5, ⟨.ptr 103 0, []⟩), (6, I s.2.2.1), (7, I k), (8, ⟨.ptr 106 0, []⟩), (101, ⟨.box (), [⟨.int .i64 st, .sc⟩, ⟨.row () ee, .sh⟩, ⟨.row () em, .sh⟩]⟩), (102, ⟨.box (), [⟨.int .i64 0, .sc⟩, ⟨.row () [], .nl⟩, ⟨.row () [], .nl⟩]⟩), (103, ⟨.box (), [⟨.int .i64 st, .sc⟩, ⟨.row () ee, .ow false⟩, ⟨.row () s.2.2.2.1, .ow false⟩]⟩), (106, ⟨.box (), [⟨.int .i64 x.src, .sc⟩, ⟨.bool x.send, .sc⟩, ⟨.int .i64 x.msg, .sc⟩, ⟨.int .i64 x.dst, .sc⟩]⟩), (197, ⟨.box (), [⟨.row () eb, .sp 0 0⟩, ⟨.int .i64 s.2.2.2.2.1, .sc⟩, ⟨.int .i64 s.2.2.2.2.2.1, .sc⟩]⟩)])
  (fun s => s.2.2.1 = (s.1 : Int) ∧ s.2.2.2.1 = row fMove s.2.1 ∧ s.1 ≤ 2 ∧ s.2.1.length ≤ 10 - s.1 ∧ CW Bs s.2.2.2.2.1) (fun s => s.1) (n0.toNat, l2, n0, em2, i1, h1, none) rfl ⟨by simp only; omega, hem2, by simp only; omega, by simp only; omega, w1⟩ ?_
 clear k1 w1 kd ke
 intro c9 Q1 hc9 hQ1
 rintro ⟨n, l', nn, eo, i, h, j⟩ ⟨hnn, heo, hn2, hll, hw⟩ ih
 simp only at hnn heo hn2 hll hw ih
 refine pull fun X hX => ?_
 have lo := F.len_at heo
 obtain ⟨b6, i6, h6, k6, w6⟩ := ko 6 (by decide) (by decide) hw h
 obtain ⟨hf, hhf⟩ := nm ((l'.length / 2 : Nat) : Int)
 have aq : arith .quo .i64 (len eo) 2 = some (.int .i64 hf) := by
  rw [F.arith, show len eo = (l'.length : Int) from lo, hhf]
  show (if (2 : Int) = 0 then none else some (VA.int IntKind.i64 (IntKind.wrap .i64 ((l'.length : Int).tdiv 2)))) = _
  rw [if_neg (by decide), show ((l'.length : Int).tdiv 2) = ((l'.length / 2 : Nat) : Int) by rw [Int.tdiv_eq_ediv_of_nonneg (by omega)]; simp, wrap64 (by omega) (by omega)]
 obtain ⟨hn, hhn⟩ := nm (l'.length / 2)
 have bq : bd (ln eo) hf = some hn := by rw [F.ln' heo]; exact F.bd' (by unfold At; rw [hhf, hhn]) (by omega)
 obtain ⟨ec, hec⟩ := nm (row fMove (l'.take hn))
 have cq : cut 4 eo hn 0 = some ec := by rw [F.cut' heo (fun _ => rfl), hec]; simp
 have fin0 := hW' eo false i6 h6 l' heo w6 (by omega)
 have fin1 := hW' ec true i6 h6 (l'.take hn) hec w6 (by rw [List.length_take]; omega)
 have g0 : gt nn 0 = decide (0 < n) := hgt nn n hnn
 have g1 : gt (len eo) 0 = decide (0 < l'.length) := hgt _ _ lo
 by_cases hz : n = 0
 ·have g0' : gt nn 0 = false := by rw [g0, hz]; rfl
  clear ih
  subst hX
  rcases j with _ | ⟨k, x⟩
  all_goals
   cbv
   rw [g0']; cbv
   rw [hQ1]; cbv
   rw [k6]; cbv
   refine both (fun e => ?_) (fun e => ?_) <;> rw [e] <;> cbv
   ·rw [aq]; cbv
    rw [bq]; cbv
    rw [cq]; cbv
    rw [hQ]; cbv
    exact fin1
   ·rw [hQ]; cbv
    exact fin0
 have g0' : gt nn 0 = true := by rw [g0, decide_eq_true_eq]; omega
 by_cases hz2 : l'.length = 0
 ·have g1' : gt (len eo) 0 = false := by rw [g1, hz2]; rfl
  clear ih
  subst hX
  rcases j with _ | ⟨k, x⟩
  all_goals
   cbv
   rw [g0']; cbv
   rw [g1']; cbv
   rw [hQ1]; cbv
   rw [k6]; cbv
   refine both (fun e => ?_) (fun e => ?_) <;> rw [e] <;> cbv
   ·rw [aq]; cbv
    rw [bq]; cbv
    rw [cq]; cbv
    rw [hQ]; cbv
    exact fin1
   ·rw [hQ]; cbv
    exact fin0
 have g1' : gt (len eo) 0 = true := by rw [g1, decide_eq_true_eq]; omega
 clear aq bq cq fin0 fin1 k6 w6
 obtain ⟨n, rfl⟩ : ∃ m, n = m + 1 := ⟨n - 1, by omega⟩
 have hnd : sub .i64 nn 1 = (n : Int) := hdec nn n hnn (by omega)
 obtain ⟨nn', hnn'⟩ := nm (n : Int)
 rw [← hnn'] at hnd
 obtain ⟨ll, hll2⟩ := nm (len eo)
 have hll3 : ll = (l'.length : Int) := by rw [hll2]; exact lo
 obtain ⟨ii, i2, h2, k2, w2, r2, r2'⟩ := kb ll (by omega) (by omega) hw h
 obtain ⟨pre, ⟨x1, x2, x3, x4⟩, suf, hls, hpre⟩ : ∃ pre x suf, l' = pre ++ x :: suf ∧ pre.length = ii.toNat := ⟨l'.take ii.toNat, l'[ii.toNat]'(by omega), l'.drop (ii.toNat + 1), by simp, by simp; omega⟩
 have hlen := congrArg List.length hls
 simp only [List.length_append, List.length_cons] at hlen
 have hi : At ii pre.length := by unfold At; omega
 obtain ⟨c5, i3, h3, k3, w3, r3, r3'⟩ := kb 5 (by decide) (by decide) w2 h2
 obtain ⟨d5, i4, h4, k4, w4, r4, r4'⟩ := kb st (by omega) (by omega) w3 h3
 have kmm := km l' x1 c5 (by omega)
 have kff := kf l' x1 (by omega)
 obtain ⟨u, hu⟩ := nm (mvOf l' x1 false c5)
 obtain ⟨v3, hv3⟩ := nm (decide (u < 0))
 have gu : lt u 0 = v3 := by rw [F.lt, hv3]
 obtain ⟨v4, hv4⟩ := nm (decide (l'.length < 12))
 have gl12 : lt ll 12 = v4 := by rw [F.lt, hll3, hv4]; simp; omega
 obtain ⟨ef, hef⟩ := nm (row fI (mvS l' x1 true))
 obtain ⟨v5, hv5⟩ := nm (decide (1 < (mvS l' x1 true).length))
 have g5 : gt (len ef) 1 = v5 := by rw [F.gt, show len ef = _ from F.len_at hef, hv5]; simp; omega
 rw [← heo, ← hu] at kmm
 rw [← heo, ← hef] at kff
 obtain ⟨ix, hix⟩ := nm (pre.length * 4)
 have pA : at' 4 eo ii = some (ix, [.int .i64 x1, .bool x2, .int .i64 x3, .int .i64 x4]) := by rw [hix]; exact F.get hi heo hls (fun _ => rfl) (by decide)
 obtain ⟨pn, hpn⟩ := nm pre.length
 have b1 : bd (ln eo) ii = some pn := by rw [F.ln' heo, hpn]; exact F.bd' hi (by omega)
 obtain ⟨ii1, hii1⟩ := nm (add .i64 ii 1)
 have hi1 : At ii1 (pn + 1) := by rw [hii1, hpn]; exact F.inc hi (by omega)
 have b2 : bd (ln eo) ii1 = some (pn + 1) := by rw [F.ln' heo]; exact F.bd' hi1 (by omega)
 obtain ⟨ec1, hec1⟩ := nm (row fMove pre)
 obtain ⟨ec2, hec2⟩ := nm (row fMove suf)
 obtain ⟨ec3, hec3⟩ := nm (row fMove (pre ++ suf))
 obtain ⟨ec4, hec4⟩ := nm (row fMove (l' ++ [(⟨x1, false, c5, d5⟩ : Move)]))
 have q1 : cut 4 eo pn 0 = some ec1 := by rw [F.cut' heo (fun _ => rfl), hec1, hpn, hls]; simp
 have q2 : cut 4 eo (ln eo) (Nat.succ pn) = some ec2 := by rw [F.cut' heo (fun _ => rfl), F.ln' heo, hec2, List.take_length, hpn, hls, show Nat.succ pre.length = pre.length + 1 from rfl]; simp
 have q3 : allS ec1 = true := F.scal hec1 (fun _ => rfl)
 have q4 : app 4 [] ec1 = some ec1 := F.app_nil hec1 (fun _ => rfl) (by omega)
 have q5 : allS ec2 = true := F.scal hec2 (fun _ => rfl)
 have q6 : app 4 ec1 ec2 = some ec3 := by rw [hec3]; exact F.app' hec1 hec2 (fun _ => rfl) (by omega)
 have q7 : app 4 eo [[.int .i64 x1, .bool false, .int .i64 c5, .int .i64 d5]] = some ec4 := by rw [hec4]; exact F.push heo (fun _ => rfl) rfl (by omega)
 have ihA := ih (n, pre ++ suf, nn', ec3, i2, h2, some (ii, ⟨x1, x2, x3, x4⟩)) ⟨hnn', hec3, by simp only; omega, by simp only [List.length_append]; omega, w2⟩ (by simp)
 have ihB := ih (n, l', nn', eo, i2, h2, some (ii, ⟨x1, x2, x3, x4⟩)) ⟨hnn', heo, by simp only; omega, by simp only; omega, w2⟩ (by simp)
 have ihC := ih (n, l', nn', eo, i4, h4, some (ii, ⟨x1, false, c5, d5⟩)) ⟨hnn', heo, by simp only; omega, by simp only; omega, w4⟩ (by simp)
 have ihD := ih (n, l' ++ [⟨x1, false, c5, d5⟩], nn', ec4, i4, h4, some (ii, ⟨x1, false, c5, d5⟩)) ⟨hnn', hec4, by simp only; omega, by simp; omega, w4⟩ (by simp)
 have gnt : not true = false := by rw [F.not]; rfl
 have gnf : not false = true := by rw [F.not]; rfl
 clear ih
 subst hX
 rcases j with _ | ⟨k, x⟩
 all_goals
  cbv
  rw [g0']; cbv
  rw [g1']; cbv
  rw [← hll2, k2]; cbv
  rw [pA]; cbv
  cases x2
  ·cbv
   rw [gnf]; cbv
   rw [k3]; cbv
   rw [k4]; cbv
   rw [kmm]; cbv
   rw [gu]
   refine both (fun e1 => ?_) (fun e1 => ?_) <;> rw [e1] <;> cbv
   ·rw [← hll2, gl12]
    refine both (fun e2 => ?_) (fun e2 => ?_) <;> rw [e2] <;> cbv
    ·rw [s0]; cbv
     rw [q7]; cbv
     rw [hnd]
     exact ihD
    ·rw [hnd]
     exact ihC
   ·rw [hnd]
    exact ihC
  ·cbv
   rw [kff]; cbv
   rw [g5]
   refine both (fun e1 => ?_) (fun e1 => ?_) <;> rw [e1] <;> cbv
   ·rw [b1]; cbv
    rw [q1]; cbv
    rw [q3]; cbv
    rw [q4]; cbv
    rw [← hii1, b2]; cbv
    rw [q2]; cbv
    rw [q5]; cbv
    rw [q6]; cbv
    rw [hnd]
    exact ihA
   ·rw [gnt]; cbv
    rw [hnd]
    exact ihB
end Go.Vm
