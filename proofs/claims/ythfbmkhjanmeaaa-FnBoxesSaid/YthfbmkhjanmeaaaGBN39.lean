/- What the law answers. -/
import Derived.Test.YthfbmkhjanmeaaaGBTab
import Derived.Test.YthfbmkhjanmeaaaGBFA
import Derived.Test.YthfbmkhjanmeaaaGBFB
import Derived.Test.YthfbmkhjanmeaaaGBFC
import Derived.Test.YthfbmkhjanmeaaaGBFD
set_option maxHeartbeats 4000000
set_option maxRecDepth 10000
set_option linter.unusedVariables false
set_option linter.unusedSimpArgs false
namespace Go.Vm
set_option maxHeartbeats 16000000 in
theorem law39 (code : List Int) :
  fix Tb md 39 [R (row fU code) (.sp 0 0)] = some ⟨[B true], [], none⟩ := by
 have h0 : inFl (.sp 0 0) = true := rfl
 have k1 := ok108 code (f0 := .sp 0 0) rfl
 obtain ⟨v, hv⟩ := nm (decide (1048576 < code.length))
 rw [← hv] at k1
 generalize hr : (⟨_, [], none⟩ : Ret) = r
 cases v with
 | true =>
  obtain ⟨eb, heb⟩ := nm (row fU code)
  rw [← heb] at k1 ⊢
  refine fix_fn2 (fn := ir39) tb_39 rfl rfl (by decide) rfl ?_; intro Q hQ; simp only [shutArgs, shutS, List.map_cons, List.map_nil, ir39, shut_in h0, List.head?_nil, reduceCtorEq, if_false, sExt, sHello, sAnswer, sEdit, sDeal, sBox, sDialed, sKnown]
  intro add sub mul arith eq ne lt le gt ge neg conv mn mx not beq len at' ln bd cut app allS isNil mks set o hP F ho
  rw [← ho] at k1
  cbv
  rw [k1]; cbv
  rw [hQ]; cbv
  exact congrArg some hr
 | false =>
 have hl : code.length ≤ 1048576 := by
  have : ¬ 1048576 < code.length := of_decide_eq_false hv.symm
  omega
 obtain ⟨_, k2, b, fd, fs, vs, x, rfl, hb, hfd, hfs, hvs, hx⟩ := dr176 code hl
 obtain ⟨_, j2, p, l2, x2, rfl, hp, hl2, hx2⟩ := dr181 code hl
 have mh : (⟨vs, x⟩ : Hello).Mid := ⟨by have := hvs.1; simp only; omega, by have := hx.1; simp only; omega, fun y hy => by have := (hx.2 y hy).2.1; show y.body.length ≤ _; omega⟩
 have mg : (⟨l2, x2⟩ : Hello).Mid := ⟨by have := hl2.1; simp only; omega, by have := hx2.1; simp only; omega, fun y hy => by have := (hx2.2 y hy).2.1; show y.body.length ≤ _; omega⟩
 have pl : p.length ≤ 1073741824 := by have := hp.1; omega
 have pm : ∀ y ∈ p, y.Mid := fun y hy => ⟨by have := (hp.2 y hy).2.1.1; omega, by have := (hp.2 y hy).2.2.1; omega⟩
 have bdl : b.drops.length ≤ 1073741824 := by have := hb.2.1.1; omega
 have bsl : b.strips.length ≤ 1073741824 := by have := hb.2.2.1; omega
 have mh' : ∀ y ∈ x, y.body.length ≤ 1099511627776 := fun y hy => Nat.le_trans (mh.2.2 y hy) (by decide)
 have mg' : ∀ y ∈ x2, y.body.length ≤ 1099511627776 := fun y hy => Nat.le_trans (mg.2.2 y hy) (by decide)
 have hvl := hvs.1
 have hxl := hx.1
 have hl2l := hl2.1
 have hx2l := hx2.1
 have xm : (pbV b ⟨vs, x⟩).Mid := pbV_mid mh
 have k3 := fun {f0 f1 : Fl} (q0 : inFl f0 = true) (q1 : inFl f1 = true) => ok174 b ⟨vs, x⟩ bdl bsl mh (f0 := f0) (f1 := f1) (f2 := .sp 1 0) (f3 := .sp 1 1) q0 q1 rfl rfl
 have k4 := fun {f0 f1 : Fl} (q0 : inFl f0 = true) (q1 : inFl f1 = true) => ok59 b.limit b.drops b.strips b.lists (f0 := f0) (f1 := f1) q0 q1
 have k5 := ok113 ⟨vs, x⟩ (by simp only; omega) (by simp only; omega) mh' (f0 := .sp 0 0) (f1 := .sp 0 1) rfl rfl
 have k6 := fun {f0 f1 : Fl} (q0 : inFl f0 = true) (q1 : inFl f1 = true) => ok131 (pbV b ⟨vs, x⟩) ⟨vs, x⟩ (Nat.le_trans xm.1 (by decide)) (Nat.le_trans xm.2.1 (by decide)) (fun y hy => Nat.le_trans (xm.2.2 y hy) (by decide)) (f0 := f0) (f1 := f1) (g0 := .sp 1 0) (g1 := .sp 1 1) q0 q1 rfl rfl
 have k7 := ok113 (pbV b ⟨vs, x⟩) (Nat.le_trans xm.1 (by decide)) (Nat.le_trans xm.2.1 (by decide)) (fun y hy => Nat.le_trans (xm.2.2 y hy) (by decide)) (f0 := .sp 0 0) (f1 := .sp 0 1) rfl rfl
 have k8 := ok177 (pbV b ⟨vs, x⟩).versions vs (Nat.le_trans xm.1 (by decide)) (f0 := .sp 0 0) (f1 := .sp 1 0) rfl rfl
 have k9 := ok179 (pbV b ⟨vs, x⟩).exts xm.2.1 (f0 := .sp 0 0) rfl
 have k10 := ok179 x (by omega) (f0 := .sp 0 0) rfl
 have k11 := ok178 (sel yesE Ext.tag (pbV b ⟨vs, x⟩).exts) (sel yesE Ext.tag x) (Nat.le_trans sel_len (Nat.le_trans xm.2.1 (by decide))) (Nat.le_trans sel_len (by omega)) (f0 := .sp 0 0) (f1 := .sp 1 0) rfl rfl
 have k12 := fun {f1 : Fl} (q1 : inFl f1 = true) => ok180 (sel yesE Ext.tag (pbV b ⟨vs, x⟩).exts) b.strips (Nat.le_trans sel_len xm.2.1) bsl (f0 := .sp 0 0) (f1 := f1) rfl q1
 have n1 := @pb_clear b ⟨vs, x⟩
 have n2 := @pb_hel b ⟨vs, x⟩
 have j3 := ok182 p ⟨l2, x2⟩ pl pm mg (f0 := .sp 0 0) (f1 := .sp 1 0) (f2 := .sp 1 1) rfl rfl rfl
 have j4 := ok104 p (by omega) (f0 := .sp 0 0) rfl
 have j5 := ok102 p ⟨pl, pm⟩ (f0 := .sp 0 0) rfl
 have j6 := ok113 ⟨l2, x2⟩ (by simp only; omega) (by simp only; omega) mg' (f0 := .sp 0 0) (f1 := .sp 0 1) rfl rfl
 have n3 := @pp_clear p ⟨l2, x2⟩
 obtain ⟨c, hc⟩ := nm (isClear b.limit b.drops b.strips b.lists)
 obtain ⟨u, hu⟩ := nm (isHel ⟨vs, x⟩)
 obtain ⟨ok, hok⟩ := nm (pbOk b ⟨vs, x⟩)
 obtain ⟨X, hX⟩ := nm (pbV b ⟨vs, x⟩)
 obtain ⟨T, hT⟩ := nm (sel yesE Ext.tag X.exts)
 obtain ⟨T2, hT2⟩ := nm (sel yesE Ext.tag x)
 obtain ⟨cp, hcp⟩ := nm (isCP p)
 obtain ⟨w, hw⟩ := nm (isHel ⟨l2, x2⟩)
 obtain ⟨ps, hps⟩ := nm (ppOk p ⟨l2, x2⟩)
 have ym := ppV_mid (path := p) mg
 have ym := ppV_mid (path := p) mg
 obtain ⟨Y, hY⟩ := nm (ppV p ⟨l2, x2⟩)
 obtain ⟨st, hst⟩ := nm (sel (hasI b.strips) idI T)
 rw [← hc] at k4 n1
 rw [← hu] at k5 n1
 rw [← hok] at k3 n1 n2
 rw [← hX] at k3 k6 k7 k8 k9 k11 k12 n1 n2
 rw [← hT] at k9 k11 k12 n2
 rw [← hT2] at k10 k11
 simp only at n2
 rw [← hT2] at n2
 rw [← hst] at k12 n2
 rw [← hcp] at j4 j5 n3
 rw [← hw] at j6 n3
 rw [← hps] at j3 n3
 rw [← hY] at j3 ym
 have hpp : pp p ⟨l2, x2⟩ = (Y, ps) := by rw [hY, hps]; rfl
 obtain ⟨l4, hl4⟩ := nm (decide (p.length ≤ 4))
 have hpp2 : (if w && l4 then ppGo p ⟨l2, x2⟩ else (⟨[], []⟩, false)) = (Y, ps) := by rw [← hpp, hw, hl4]; rfl
 clear hc hu hX hT hT2 hcp hw hps hY hst
 simp only at k3 k5 k6 k7 k8 j3 j6
 obtain ⟨eb, heb⟩ := nm (row fU code)
 obtain ⟨ed, hed⟩ := nm (row fI b.drops)
 obtain ⟨es, hes⟩ := nm (row fI b.strips)
 obtain ⟨ev, hev⟩ := nm (row fI vs)
 obtain ⟨ex, hex⟩ := nm (row fExt x)
 obtain ⟨x1, hx1⟩ := nm (row fI X.versions)
 obtain ⟨y1, hy1⟩ := nm (row fExt X.exts)
 obtain ⟨eT, heT⟩ := nm (row fI T)
 obtain ⟨eT2, heT2⟩ := nm (row fI T2)
 obtain ⟨est, hest⟩ := nm (row fI st)
 obtain ⟨ep, hep⟩ := nm (row fBox p)
 obtain ⟨z1, hz1⟩ := nm (row fI l2)
 obtain ⟨z2, hz2⟩ := nm (row fExt x2)
 obtain ⟨p1, hp1⟩ := nm (row fI Y.versions)
 obtain ⟨p2, hp2⟩ := nm (row fExt Y.exts)
 obtain ⟨bl, hbl⟩ := nm b.limit
 obtain ⟨bi, hbi⟩ := nm b.lists
 rw [← heb] at k1 k2 j2 ⊢
 rw [← hed, ← hes, ← hev, ← hex, ← hbl, ← hbi] at k2 k3
 rw [← hx1, ← hy1] at k3 k6 k7
 rw [← hbl, ← hed, ← hes, ← hbi] at k4
 rw [← hev, ← hex] at k5 k6
 rw [← hx1, ← hev] at k8
 rw [← hy1, ← heT] at k9
 rw [← hex, ← heT2] at k10
 rw [← heT, ← heT2] at k11
 rw [← heT, ← hes, ← hest] at k12
 rw [← hep, ← hz1, ← hz2] at j2 j3
 rw [← hp1, ← hp2] at j3
 rw [← hep] at j4 j5
 rw [← hz1, ← hz2] at j6
 have K : ∀ P : Fl → Fl → Fl → Fl → Fl → Prop, (∀ fa fb fc, inFl fa = true → inFl fb = true → inFl fc = true → P fd fs fa fb fc) → (P (.ow false) (.ow false) (.sp 0 1) (.sp 0 2) (.sp 1 0) ∨ P (.ow false) .nl (.sp 0 1) .nl .nl ∨ P .nl (.ow false) .nl (.sp 0 2) (.sp 1 0) ∨ P .nl .nl .nl .nl .nl) := by
  intro P h
  rcases hfd with ⟨rfl, _⟩ | rfl <;> rcases hfs with ⟨rfl, _⟩ | rfl
  ·exact .inr (.inr (.inr (h _ _ _ rfl rfl rfl)))
  ·exact .inr (.inr (.inl (h _ _ _ rfl rfl rfl)))
  ·exact .inr (.inl (h _ _ _ rfl rfl rfl))
  ·exact .inl (h _ _ _ rfl rfl rfl)
 have K2 := K (fun f g fa fb fc => fix Tb md 176 [R eb (.sp 0 0)] = some ⟨[sBox bl ed es bi f g, sHello ev ex (.ow false) (.ow false)], [], none⟩ ∧
   (ok = true → fix Tb md 174 [sBox bl ed es bi fa fb, sHello ev ex (.sp 1 0) (.sp 1 1)] = some ⟨[sHello x1 y1 (.ow false) (.ow false), B true], [], none⟩) ∧
   (ok = false → fix Tb md 174 [sBox bl ed es bi fa fb, sHello ev ex (.sp 1 0) (.sp 1 1)] = some ⟨[sHello [] [] .nl .nl, B false], [], none⟩) ∧
   fix Tb md 59 [sBox bl ed es bi fa fb] = some ⟨[B c], [], none⟩ ∧
   fix Tb md 180 [R eT (.sp 0 0), R es fc] = some ⟨[R est (.ow false)], [], none⟩) (fun fa fb fc qa qb qc => ⟨k2, (fun e => by
    have kk := k3 qa qb
    rw [e] at kk
    refine kk.resolve_right (fun e' => ?_)
    obtain ⟨a1, _, _, _⟩ := n2 e
    obtain ⟨e1, _, _⟩ := e'
    unfold isHel at a1
    rw [e1] at a1
    simp [areVer] at a1), (fun e => by
    rw [hed, hes, hev, hex, hbl, hbi]
    exact ok174r b ⟨vs, x⟩ bdl bsl mh qa qb rfl rfl _ (fun q => by rw [← hok, e] at q; cases q) (fun _ => rfl)), k4 qa qb, k12 qc⟩)
 have k6' := k6 (f0 := .sp 0 0) (f1 := .sp 0 1) rfl rfl
 clear K k2 k3 k4 k12 k6 hok
 refine fix_fn2 (fn := ir39) tb_39 rfl rfl (by decide) rfl ?_; intro Q hQ; simp only [shutArgs, shutS, List.map_cons, List.map_nil, ir39, shut_in h0, List.head?_nil, reduceCtorEq, if_false, sExt, sHello, sAnswer, sEdit, sDeal, sBox, sDialed, sKnown]
 intro add sub mul arith eq ne lt le gt ge neg conv mn mx not beq len at' ln bd cut app allS isNil mks set o hP F ho
 rw [← ho] at k1 K2 k5 k6' k7 k8 k9 k10 k11 j2 j3 j4 j5 j6
 have lp := F.len_at hep
 have g4 : not true = false := by rw [F.not]; rfl
 have g5 : not false = true := by rw [F.not]; rfl
 have g6 : not (beq cp cp) = false := by rw [F.not, F.beq]; simp
 have g8 : le (len ep) 4 = l4 := by rw [hl4]; exact F.le_n lp rfl
 as_aux_lemma =>
  cbv
  rw [k1]; cbv
  rcases Bool.eq_false_or_eq_true ok with eo | eo
  case' inl =>
   obtain ⟨a1, a2, a3, a4⟩ := n2 eo
   rw [a1] at k7
   rw [decide_eq_true a2] at k8
   rw [a3] at k11
   have hg : gt (len est) 0 = false := by rw [hest, a4, F.gt, F.len]; rfl
   apply shareA (α := List (Cell Unit))
   case main =>
    intro key
    as_aux_lemma =>
     have K := K2
     rcases K with K | K | K | K
     all_goals
      obtain ⟨K2, K3, _, K4, K12⟩ := K
      rw [K2]; cbv
      rw [K3 eo]; cbv
      rw [K4]; cbv
      apply share2 (P := True)
      case main =>
       intro key2
       refine both (fun ec => ?_) (fun ec => ?_) <;> rw [ec] <;> cbv
       ·rw [k5]; cbv
        refine both (fun eu => ?_) (fun eu => ?_) <;> rw [eu] <;> cbv
        ·obtain ⟨_, q⟩ := n1 ec eu
         have k6'' := k6'
         rw [decide_eq_true q] at k6''
         rw [g4]; cbv
         rw [k6'']; cbv
         rw [g4]; cbv
         exact key2 trivial
        ·exact key2 trivial
       ·exact key2 trivial
      case proof =>
       intro _
       rw [k7]; cbv
       rw [g4]; cbv
       rw [k8]; cbv
       rw [g4]; cbv
       rw [k9]; cbv
       rw [k10]; cbv
       rw [k11]; cbv
       rw [g4]; cbv
       rw [k9]; cbv
       rw [K12]; cbv
       rw [hg]; cbv
       first
        | (generalize ([⟨.int .i64 bl, .sc⟩, ⟨.row () ed, .ow false⟩, ⟨.row () es, .ow false⟩, ⟨.bool bi, .sc⟩] : List (Cell Unit)) = cs
           exact key cs)
        | exact key _
   case' proof => intro cs
  case' inr =>
   apply shareA (α := List (Cell Unit))
   case main =>
    intro key
    as_aux_lemma =>
     have K := K2
     rcases K with K | K | K | K
     all_goals
      obtain ⟨K2, _, K3, K4, K12⟩ := K
      rw [K2]; cbv
      rw [K3 eo]; cbv
      rw [K4]; cbv
      apply share2 (P := True)
      case main =>
       intro key2
       refine both (fun ec => ?_) (fun ec => ?_) <;> rw [ec] <;> cbv
       ·rw [k5]; cbv
        refine both (fun eu => ?_) (fun eu => ?_)
        ·have := (n1 ec eu).1
         rw [eo] at this; cases this
        ·rw [eu]; cbv
         exact key2 trivial
       ·exact key2 trivial
      case proof =>
       intro _
       first
        | (generalize ([⟨.int .i64 bl, .sc⟩, ⟨.row () ed, .ow false⟩, ⟨.row () es, .ow false⟩, ⟨.bool bi, .sc⟩] : List (Cell Unit)) = cs
           exact key cs)
        | exact key _
   case' proof => intro cs
  all_goals
   as_aux_lemma =>
    rw [j2]; cbv
    rcases j3 with j3 | ⟨b1, b2, j3⟩
    all_goals
     as_aux_lemma =>
      rw [j3]; cbv
      rw [j4]; cbv
      rw [j5]; cbv
      rw [g6]; cbv
      rw [j4]; cbv
      apply share2 (P := True)
      case main =>
       intro key3
       refine both (fun ec => ?_) (fun ec => ?_) <;> rw [ec] <;> cbv
       ·rw [j6]; cbv
        rw [show not (beq ps w) = false by rw [F.not, F.beq, n3 ec]; simp]; cbv
        exact key3 trivial
       ·exact key3 trivial
      case proof =>
      intro _
      rw [j6]; cbv
      refine both (fun ew => ?_) (fun ew => ?_) <;> rw [ew] <;> cbv
      ·rw [g8]; cbv
       rw [ew, Bool.true_and] at hpp2
       rcases Bool.eq_false_or_eq_true l4 with e4 | e4 <;> rw [e4] <;> rw [e4] at hpp2
       ·rw [if_pos rfl] at hpp2
        first
        | refine loop_ind2 hP (σ := List Box × List Box × Int × Option (Hello × List (List V) × List (List V)) × List (Cell Unit) × List (Cell Unit)) (fun s => match s.2.2.2.1 with
        | some j => [(0, R eb .sh), (2, B false), (3, ⟨.ptr 144 0, []⟩), (4, ⟨.ptr 145 0, []⟩), (5, ⟨.ptr 146 0, []⟩), (6, B true), (7, R ep (.ow false)), (8, ⟨.ptr 149 0, []⟩), (9, ⟨.ptr 150 0, []⟩), (10, B ps), (11, ⟨.ptr 152 0, []⟩), (12, B true), (13, I s.2.2.1), (144, ⟨.box (), s.2.2.2.2.1⟩), (145, ⟨.box (), [⟨.row () ev, .ow false⟩, ⟨.row () ex, .ow false⟩]⟩), (146, ⟨.box (), [⟨.row () x1, .ow false⟩, ⟨.row () y1, .ow false⟩]⟩), (149, ⟨.box (), [⟨.row () z1, .fr⟩, ⟨.row () z2, .fr⟩]⟩), (150, ⟨.box (), [⟨.row () p1, .ow false⟩, ⟨.row () p2, .ow false⟩]⟩), (152, ⟨.box (), [⟨.row () j.2.1, .ow false⟩, ⟨.row () j.2.2, .ow false⟩]⟩)]
        | none => [(0, R eb .sh), (2, B false), (3, ⟨.ptr 144 0, []⟩), (4, ⟨.ptr 145 0, []⟩), (5, ⟨.ptr 146 0, []⟩), (6, B true), (7, R ep (.ow false)), (8, ⟨.ptr 149 0, []⟩), (9, ⟨.ptr 150 0, []⟩), (10, B ps), (11, ⟨.ptr 152 0, []⟩), (12, B false), (13, I s.2.2.1), (144, ⟨.box (), s.2.2.2.2.1⟩), (145, ⟨.box (), [⟨.row () ev, .ow false⟩, ⟨.row () ex, .ow false⟩]⟩), (146, ⟨.box (), [⟨.row () x1, .ow false⟩, ⟨.row () y1, .ow false⟩]⟩), (149, ⟨.box (), [⟨.row () z1, .fr⟩, ⟨.row () z2, .fr⟩]⟩), (150, ⟨.box (), [⟨.row () p1, .ow false⟩, ⟨.row () p2, .ow false⟩]⟩), (152, ⟨.box (), s.2.2.2.2.2⟩)]) (fun s => At s.2.2.1 s.2.1.length ∧ p = s.2.1 ++ s.1 ∧ (match s.2.2.2.1 with | none => (⟨[], []⟩, false) = (Y, ps) | some j => ppGo s.1 j.1 = (Y, ps) ∧ j.1.Mid ∧ j.2.1 = row fI j.1.versions ∧ j.2.2 = row fExt j.1.exts)) (fun s => s.1.length) (p, [], 0, some (⟨l2, x2⟩, z1, z2), _, []) rfl ⟨rfl, rfl, hpp2, mg, hz1, hz2⟩ ?_
        | refine loop_ind2 hP (σ := List Box × List Box × Int × Option (Hello × List (List V) × List (List V)) × List (Cell Unit) × List (Cell Unit)) (fun s => match s.2.2.2.1 with
        | some j => [(0, R eb .sh), (2, B false), (3, ⟨.ptr 144 0, []⟩), (4, ⟨.ptr 145 0, []⟩), (5, ⟨.ptr 146 0, []⟩), (6, B true), (7, R ep (.ow false)), (8, ⟨.ptr 149 0, []⟩), (9, ⟨.ptr 150 0, []⟩), (10, B ps), (11, ⟨.ptr 152 0, []⟩), (12, B true), (13, I s.2.2.1), (144, ⟨.box (), s.2.2.2.2.1⟩), (145, ⟨.box (), [⟨.row () ev, .ow false⟩, ⟨.row () ex, .ow false⟩]⟩), (146, ⟨.box (), [⟨.row () x1, .ow false⟩, ⟨.row () y1, .ow false⟩]⟩), (149, ⟨.box (), [⟨.row () z1, .fr⟩, ⟨.row () z2, .fr⟩]⟩), (150, ⟨.box (), [⟨.row () [], .nl⟩, ⟨.row () [], .nl⟩]⟩), (152, ⟨.box (), [⟨.row () j.2.1, .ow false⟩, ⟨.row () j.2.2, .ow false⟩]⟩)]
        | none => [(0, R eb .sh), (2, B false), (3, ⟨.ptr 144 0, []⟩), (4, ⟨.ptr 145 0, []⟩), (5, ⟨.ptr 146 0, []⟩), (6, B true), (7, R ep (.ow false)), (8, ⟨.ptr 149 0, []⟩), (9, ⟨.ptr 150 0, []⟩), (10, B ps), (11, ⟨.ptr 152 0, []⟩), (12, B false), (13, I s.2.2.1), (144, ⟨.box (), s.2.2.2.2.1⟩), (145, ⟨.box (), [⟨.row () ev, .ow false⟩, ⟨.row () ex, .ow false⟩]⟩), (146, ⟨.box (), [⟨.row () x1, .ow false⟩, ⟨.row () y1, .ow false⟩]⟩), (149, ⟨.box (), [⟨.row () z1, .fr⟩, ⟨.row () z2, .fr⟩]⟩), (150, ⟨.box (), [⟨.row () [], .nl⟩, ⟨.row () [], .nl⟩]⟩), (152, ⟨.box (), s.2.2.2.2.2⟩)]) (fun s => At s.2.2.1 s.2.1.length ∧ p = s.2.1 ++ s.1 ∧ (match s.2.2.2.1 with | none => (⟨[], []⟩, false) = (Y, ps) | some j => ppGo s.1 j.1 = (Y, ps) ∧ j.1.Mid ∧ j.2.1 = row fI j.1.versions ∧ j.2.2 = row fExt j.1.exts)) (fun s => s.1.length) (p, [], 0, some (⟨l2, x2⟩, z1, z2), _, []) rfl ⟨rfl, rfl, hpp2, mg, hz1, hz2⟩ ?_
        | refine loop_ind2 hP (σ := List Box × List Box × Int × Option (Hello × List (List V) × List (List V)) × List (Cell Unit) × List (Cell Unit)) (fun s => match s.2.2.2.1 with
        | some j => [(0, R eb .sh), (2, B false), (3, ⟨.ptr 144 0, []⟩), (4, ⟨.ptr 145 0, []⟩), (5, ⟨.ptr 146 0, []⟩), (6, B false), (7, R ep (.ow false)), (8, ⟨.ptr 149 0, []⟩), (9, ⟨.ptr 150 0, []⟩), (10, B ps), (11, ⟨.ptr 152 0, []⟩), (12, B true), (13, I s.2.2.1), (144, ⟨.box (), s.2.2.2.2.1⟩), (145, ⟨.box (), [⟨.row () ev, .ow false⟩, ⟨.row () ex, .ow false⟩]⟩), (146, ⟨.box (), [⟨.row () [], .nl⟩, ⟨.row () [], .nl⟩]⟩), (149, ⟨.box (), [⟨.row () z1, .fr⟩, ⟨.row () z2, .fr⟩]⟩), (150, ⟨.box (), [⟨.row () p1, .ow false⟩, ⟨.row () p2, .ow false⟩]⟩), (152, ⟨.box (), [⟨.row () j.2.1, .ow false⟩, ⟨.row () j.2.2, .ow false⟩]⟩)]
        | none => [(0, R eb .sh), (2, B false), (3, ⟨.ptr 144 0, []⟩), (4, ⟨.ptr 145 0, []⟩), (5, ⟨.ptr 146 0, []⟩), (6, B false), (7, R ep (.ow false)), (8, ⟨.ptr 149 0, []⟩), (9, ⟨.ptr 150 0, []⟩), (10, B ps), (11, ⟨.ptr 152 0, []⟩), (12, B false), (13, I s.2.2.1), (144, ⟨.box (), s.2.2.2.2.1⟩), (145, ⟨.box (), [⟨.row () ev, .ow false⟩, ⟨.row () ex, .ow false⟩]⟩), (146, ⟨.box (), [⟨.row () [], .nl⟩, ⟨.row () [], .nl⟩]⟩), (149, ⟨.box (), [⟨.row () z1, .fr⟩, ⟨.row () z2, .fr⟩]⟩), (150, ⟨.box (), [⟨.row () p1, .ow false⟩, ⟨.row () p2, .ow false⟩]⟩), (152, ⟨.box (), s.2.2.2.2.2⟩)]) (fun s => At s.2.2.1 s.2.1.length ∧ p = s.2.1 ++ s.1 ∧ (match s.2.2.2.1 with | none => (⟨[], []⟩, false) = (Y, ps) | some j => ppGo s.1 j.1 = (Y, ps) ∧ j.1.Mid ∧ j.2.1 = row fI j.1.versions ∧ j.2.2 = row fExt j.1.exts)) (fun s => s.1.length) (p, [], 0, some (⟨l2, x2⟩, z1, z2), _, []) rfl ⟨rfl, rfl, hpp2, mg, hz1, hz2⟩ ?_
        | refine loop_ind2 hP (σ := List Box × List Box × Int × Option (Hello × List (List V) × List (List V)) × List (Cell Unit) × List (Cell Unit)) (fun s => match s.2.2.2.1 with
        | some j => [(0, R eb .sh), (2, B false), (3, ⟨.ptr 144 0, []⟩), (4, ⟨.ptr 145 0, []⟩), (5, ⟨.ptr 146 0, []⟩), (6, B false), (7, R ep (.ow false)), (8, ⟨.ptr 149 0, []⟩), (9, ⟨.ptr 150 0, []⟩), (10, B ps), (11, ⟨.ptr 152 0, []⟩), (12, B true), (13, I s.2.2.1), (144, ⟨.box (), s.2.2.2.2.1⟩), (145, ⟨.box (), [⟨.row () ev, .ow false⟩, ⟨.row () ex, .ow false⟩]⟩), (146, ⟨.box (), [⟨.row () [], .nl⟩, ⟨.row () [], .nl⟩]⟩), (149, ⟨.box (), [⟨.row () z1, .fr⟩, ⟨.row () z2, .fr⟩]⟩), (150, ⟨.box (), [⟨.row () [], .nl⟩, ⟨.row () [], .nl⟩]⟩), (152, ⟨.box (), [⟨.row () j.2.1, .ow false⟩, ⟨.row () j.2.2, .ow false⟩]⟩)]
        | none => [(0, R eb .sh), (2, B false), (3, ⟨.ptr 144 0, []⟩), (4, ⟨.ptr 145 0, []⟩), (5, ⟨.ptr 146 0, []⟩), (6, B false), (7, R ep (.ow false)), (8, ⟨.ptr 149 0, []⟩), (9, ⟨.ptr 150 0, []⟩), (10, B ps), (11, ⟨.ptr 152 0, []⟩), (12, B false), (13, I s.2.2.1), (144, ⟨.box (), s.2.2.2.2.1⟩), (145, ⟨.box (), [⟨.row () ev, .ow false⟩, ⟨.row () ex, .ow false⟩]⟩), (146, ⟨.box (), [⟨.row () [], .nl⟩, ⟨.row () [], .nl⟩]⟩), (149, ⟨.box (), [⟨.row () z1, .fr⟩, ⟨.row () z2, .fr⟩]⟩), (150, ⟨.box (), [⟨.row () [], .nl⟩, ⟨.row () [], .nl⟩]⟩), (152, ⟨.box (), s.2.2.2.2.2⟩)]) (fun s => At s.2.2.1 s.2.1.length ∧ p = s.2.1 ++ s.1 ∧ (match s.2.2.2.1 with | none => (⟨[], []⟩, false) = (Y, ps) | some j => ppGo s.1 j.1 = (Y, ps) ∧ j.1.Mid ∧ j.2.1 = row fI j.1.versions ∧ j.2.2 = row fExt j.1.exts)) (fun s => s.1.length) (p, [], 0, some (⟨l2, x2⟩, z1, z2), _, []) rfl ⟨rfl, rfl, hpp2, mg, hz1, hz2⟩ ?_
        as_aux_lemma =>
         intro c9 Q1 hc9 hQ1
         rintro ⟨suf, pre, i, e, cs', ct⟩ ⟨hi, hl', hz⟩ ih
         simp only at hi hl' hz ih
         cases e with
         | none =>
          obtain ⟨rfl, rfl⟩ := Prod.mk.inj hz
          cbv
          refine both (fun d => ?_) (fun d => ?_) <;> rw [d] <;> cbv
          all_goals
           rw [hQ1]; cbv
           rw [show beq false false = true by rw [F.beq]; rfl]; cbv
           rw [g5]; cbv
           rw [hQ]; cbv
           exact congrArg some hr
         | some j =>
          obtain ⟨cur, cv, cx⟩ := j
          obtain ⟨q1, q2, q3, q4⟩ := hz
          simp only at q1 q2 q3 q4
          have q2' := q2
          unfold Hello.Mid at q2'
          cases suf with
          | nil =>
           as_aux_lemma =>
            have q1' : (cur, true) = (Y, ps) := q1
            obtain ⟨e1, e2⟩ := Prod.mk.inj q1'
            have c5 := fun {f g : Fl} (a : inFl f = true) (b : inFl g = true) => ok131 Y cur (Nat.le_trans ym.1 (by decide)) (Nat.le_trans ym.2.1 (by decide)) (fun y hy => Nat.le_trans (ym.2.2 y hy) (by decide)) (f0 := f) (f1 := g) (g0 := .sp 1 0) (g1 := .sp 1 1) a b rfl rfl
            rw [decide_eq_true e1.symm, ← hp1, ← hp2, ← q3, ← q4, ← ho] at c5
            have c6 : o 131 [sHello p1 p2 (.sp 0 0) (.sp 0 1), sHello cv cx (.sp 1 0) (.sp 1 1)] = some ⟨[B true], [], none⟩ := c5 rfl rfl
            have c7 : p1 = [] → p2 = [] → o 131 [sHello [] [] .nl .nl, sHello cv cx (.sp 1 0) (.sp 1 1)] = some ⟨[B true], [], none⟩ := fun h1 h2 => by
             have := c5 (f := .nl) (g := .nl) rfl rfl
             rw [h1, h2] at this
             exact this
            rw [← e2]
            cbv
            rw [F.lt_f hi lp (by simp [hl'])]; cbv
            rw [hQ1]; cbv
            rw [show beq true true = true by rw [F.beq]; rfl]; cbv
            rw [g4]; cbv
            first | rw [c6] | rw [c7 (by rw [hp1, b1]; rfl) (by rw [hp2, b2]; rfl)]
            cbv
            rw [hQ]; cbv
            exact congrArg some hr
          | cons x suf =>
           as_aux_lemma =>
            obtain ⟨ix, hix⟩ := nm (pre.length * 4)
            obtain ⟨e1, he1⟩ := nm (row fI x.drops)
            obtain ⟨e2, he2⟩ := nm (row fI x.strips)
            have hx' := pm x (by rw [hl']; simp)
            unfold Box.Mid at hx'
            have hi' : At (add .i64 i 1) (pre ++ [x]).length := at_len (F.inc hi (by rw [hl'] at pl; simp at pl; omega)) (by simp)
            have hl2' : p = (pre ++ [x]) ++ suf := by rw [hl']; simp
            have p0 : at' 4 ep i = some (ix, [.int .i64 x.limit, .row () e1, .row () e2, .bool x.lists]) := by rw [hix, he1, he2]; exact F.get hi hep hl' (fun _ => rfl) (by decide)
            rcases Bool.eq_false_or_eq_true (pbOk x cur) with hok | hok
            ·obtain ⟨nx, hnx⟩ := nm (row fExt (sel (stripE x.strips) idE cur.exts))
             have hV : pbV x cur = ⟨cur.versions, sel (stripE x.strips) idE cur.exts⟩ := by rw [pbV, hok]; rfl
             have c3 : o 174 [sBox x.limit e1 e2 x.lists (.sp 0 1) (.sp 0 2), sHello cv cx (.sp 1 0) (.sp 1 1)] = some ⟨[sHello cv nx (.ow false) (.ow false), B true], [], none⟩ := by
              rw [ho, he1, he2, q3, q4, hnx]
              exact ok174r x cur (by omega) (by omega) q2 rfl rfl rfl rfl _ (fun _ => rfl) (fun q => by rw [hok] at q; cases q)
             cbv
             rw [F.lt_t hi lp (by simp [hl'])]; cbv
             rw [p0]; cbv
             rw [c3]; cbv
             refine ih (suf, pre ++ [x], add .i64 i 1, some (pbV x cur, cv, nx), _, []) ⟨hi', hl2', ?_, pbV_mid q2, ?_, ?_⟩ (by simp)
             ·simp only; rw [← q1, ppGo, hok, if_pos rfl]
             ·simp only; rw [hV, q3]
             ·simp only; rw [hV, hnx]
            ·have c3 : o 174 [sBox x.limit e1 e2 x.lists (.sp 0 1) (.sp 0 2), sHello cv cx (.sp 1 0) (.sp 1 1)] = some ⟨[sHello [] [] .nl .nl, B false], [], none⟩ := by
              rw [ho, he1, he2, q3, q4]
              exact ok174r x cur (by omega) (by omega) q2 rfl rfl rfl rfl _ (fun q => by rw [hok] at q; cases q) (fun _ => rfl)
             cbv
             rw [F.lt_t hi lp (by simp [hl'])]; cbv
             rw [p0]; cbv
             rw [c3]; cbv
             refine ih (suf, pre ++ [x], add .i64 i 1, none, _, _) ⟨hi', hl2', ?_⟩ (by simp)
             simp only; rw [← q1, ppGo, hok]; rfl
       ·rw [if_neg (by simp)] at hpp2
        obtain ⟨_, rfl⟩ := Prod.mk.inj hpp2
        refine loop_round hP ?_
        cbv
        refine both (fun d => ?_) (fun d => ?_) <;> rw [d] <;> cbv
        all_goals
         rw [show beq false false = true by rw [F.beq]; rfl]; cbv
         rw [g5]; cbv
         rw [hQ]; cbv
         exact congrArg some hr
      ·rw [ew, Bool.false_and, if_neg (by simp)] at hpp2
       obtain ⟨_, rfl⟩ := Prod.mk.inj hpp2
       refine loop_round hP ?_
       cbv
       refine both (fun d => ?_) (fun d => ?_) <;> rw [d] <;> cbv
       all_goals
        rw [show beq false false = true by rw [F.beq]; rfl]; cbv
        rw [g5]; cbv
        rw [hQ]; cbv
        exact congrArg some hr
theorem ans39 : Answers Tb md 39 [(false, [.row [.int .u8]])] := answers_of (by
 intro vs h
 obtain ⟨_, _, rfl, h1, h⟩ := fitL_cons h
 cases fitL_nil h
 obtain ⟨l, rfl, wl⟩ := fit_row (fun _ => fitL_U) h1
 exact law39 l)
end Go.Vm
