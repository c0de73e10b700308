/- What the law answers. -/
import Derived.Test.YthfbmkhjanmeaaaGDTab
import Derived.Test.YthfbmkhjanmeaaaGDFA
import Derived.Test.YthfbmkhjanmeaaaGDFB
import Derived.Test.YthfbmkhjanmeaaaGDFC
import Derived.Test.YthfbmkhjanmeaaaGDFD
import Derived.Test.YthfbmkhjanmeaaaGDFE
import Derived.Test.YthfbmkhjanmeaaaGDFF
import Derived.Test.YthfbmkhjanmeaaaGDFH
set_option maxHeartbeats 4000000
set_option maxRecDepth 10000
set_option linter.unusedVariables false
set_option linter.unusedSimpArgs false
namespace Go.Vm
set_option maxHeartbeats 16000000 in
theorem law41 (code : List Int) :
  fix Tb md 41 [R (row fU code) (.sp 0 0)] = some ⟨[B true], [], none⟩ := by
 have h0 : inFl (.sp 0 0) = true := rfl
 have k1 := ok108 code (f0 := .sp 0 0) rfl
 obtain ⟨v, hv⟩ := nm (decide (1048576 < code.length))
 rw [← hv] at k1
 generalize hr : (⟨_, [], none⟩ : Ret) = r
 cases v with
 | true =>
  obtain ⟨eb, heb⟩ := nm (row fU code)
  rw [← heb] at k1 ⊢
  refine fix_fn2 (fn := ir41) tb_41 rfl rfl (by decide) rfl ?_; intro Q hQ; simp only [shutArgs, shutS, List.map_cons, List.map_nil, ir41, shut_in h0, List.head?_nil, reduceCtorEq, if_false, sExt, sHello, sAnswer, sEdit, sDeal, sBox, sDialed, sKnown]
  intro add sub mul arith eq ne lt le gt ge neg conv mn mx not beq len at' ln bd cut app allS isNil mks set o hP F ho
  rw [← ho] at k1
  cbv
  rw [k1]; cbv
  rw [hQ]; cbv
  exact congrArg some hr
 | false =>
 have hl : code.length ≤ 1048576 := by
  have : ¬ 1048576 < code.length := of_decide_eq_false hv.symm
  omega
 obtain ⟨_, k2, p, vs, x, rfl, hp, hvs, hx⟩ := dr190 code hl
 obtain ⟨_, j2, l2, x2, v2, t2, rfl, hl2, hx2, hv2, ht2⟩ := dr191 code hl
 have mh : (⟨vs, x⟩ : Hello).Mid := ⟨by have := hvs.1; simp only; omega, by have := hx.1; simp only; omega, fun y hy => by have := (hx.2 y hy).2.1; show y.body.length ≤ _; omega⟩
 have mg : (⟨l2, x2⟩ : Hello).Mid := ⟨by have := hl2.1; simp only; omega, by have := hx2.1; simp only; omega, fun y hy => by have := (hx2.2 y hy).2.1; show y.body.length ≤ _; omega⟩
 have pl : p.length ≤ 1073741824 := by have := hp.1; omega
 have pm : ∀ y ∈ p, y.Mid := fun y hy => ⟨by have := (hp.2 y hy).2.1.1; omega, by have := (hp.2 y hy).2.2.1; omega⟩
 have hvl := hvs.1
 have hxl := hx.1
 have hv2l := hv2.1
 have ht2l := ht2.1
 have hl2l := hl2.1
 have xm : ∀ y ∈ x, y.body.length ≤ 1073741824 := mh.2.2
 have xm' : ∀ y ∈ x, y.body.length ≤ 1099511627776 := fun y hy => Nat.le_trans (xm y hy) (by decide)
 have k3 := ok186 p vs x pl pm (by omega) (by omega) xm (f0 := .sp 0 0) (f1 := .sp 1 0) (f2 := .sp 2 0) rfl rfl rfl
 have k4 := ok171 p vs pl pm (by omega) (f0 := .sp 0 0) (f1 := .sp 1 0) rfl rfl
 have k5 := ok179 x (by omega) (f0 := .sp 0 0) rfl
 have lL := ltags_len (path := p) (versions := vs) (exts := x)
 have lG := lvs_len (path := p) (versions := vs)
 have lT : (sel yesE Ext.tag x).length ≤ x.length := sel_len
 have k6 := ok178 (ltags p vs x) (sel yesE Ext.tag x) (by omega) (by omega) (f0 := .sp 0 0) (f1 := .sp 1 0) rfl rfl
 have k7 := ok178 (lvs p vs) vs (by omega) (by omega) (f0 := .sp 0 0) (f1 := .sp 1 0) rfl rfl
 rw [ltags_sub] at k6
 rw [lvs_sub] at k7
 have k8 := ok104 p (by omega) (f0 := .sp 0 0) rfl
 have k9 := ok167 p vs pl pm (by omega) (f0 := .sp 0 0) (f1 := .sp 1 0) rfl rfl
 have k10 := ok113 ⟨vs, x⟩ (by simp only; omega) (by simp only; omega) xm' (f0 := .sp 0 0) (f1 := .sp 0 1) rfl rfl
 have k11 := ok182 p ⟨vs, x⟩ pl pm mh (f0 := .sp 0 0) (f1 := .sp 1 0) (f2 := .sp 1 1) rfl rfl rfl
 have vm : (ppV p ⟨vs, x⟩).Mid := ppV_mid mh
 have k12 := fun {f g : Fl} (q : inFl f = true) (q' : inFl g = true) => ok131 (ppV p ⟨vs, x⟩) ⟨vs, x⟩ (Nat.le_trans vm.1 (by decide)) (Nat.le_trans vm.2.1 (by decide)) (fun y hy => Nat.le_trans (vm.2.2 y hy) (by decide)) (f0 := f) (f1 := g) (g0 := .sp 1 0) (g1 := .sp 1 1) q q' rfl rfl
 have n1 := @lost_clear p vs x
 have n2 := @lost_whole p vs x
 have j3 := ok165 ⟨l2, x2⟩ v2 t2 mg (by omega) (by omega) (f0 := .sp 0 0) (f1 := .sp 0 1) (f2 := .sp 1 0) (f3 := .sp 2 0) rfl rfl rfl rfl
 have j4 := ok164 ⟨l2, x2⟩ v2 t2 mg (by omega) (by omega) (f0 := .sp 0 0) (f1 := .sp 0 1) (f2 := .sp 1 0) (f3 := .sp 2 0) rfl rfl rfl rfl
 have n3 := @part_good ⟨l2, x2⟩ v2 t2
 have wm : (partV ⟨l2, x2⟩ v2 t2).Mid := partV_mid mg
 have j5 := ok113 (partV ⟨l2, x2⟩ v2 t2) (Nat.le_trans wm.1 (by decide)) (Nat.le_trans wm.2.1 (by decide)) (fun y hy => Nat.le_trans (wm.2.2 y hy) (by decide)) (f0 := .sp 0 0) (f1 := .sp 0 1) rfl rfl
 have j6 := ok180 (partV ⟨l2, x2⟩ v2 t2).versions v2 wm.1 (by omega) (f0 := .sp 0 0) (f1 := .sp 1 0) rfl rfl
 have j7 := ok179 (partV ⟨l2, x2⟩ v2 t2).exts wm.2.1 (f0 := .sp 0 0) rfl
 have j8 := ok180 (sel yesE Ext.tag (partV ⟨l2, x2⟩ v2 t2).exts) t2 (Nat.le_trans sel_len wm.2.1) (by omega) (f0 := .sp 0 0) (f1 := .sp 1 0) rfl rfl
 have j9 := ok77 l2 (by omega) (f0 := .sp 0 0) rfl
 have j10 := ok113 ⟨l2, []⟩ (by simp only; omega) (by simp) (by simp) (f0 := .sp 0 0) (f1 := .nl) rfl rfl
 obtain ⟨L, hL⟩ := nm (ltags p vs x)
 obtain ⟨G, hG⟩ := nm (lvs p vs)
 obtain ⟨T, hT⟩ := nm (sel yesE Ext.tag x)
 obtain ⟨c, hc⟩ := nm (isCP p)
 obtain ⟨u, hu⟩ := nm (iop p vs)
 obtain ⟨w, hw⟩ := nm (isHel ⟨vs, x⟩)
 obtain ⟨ok, hok⟩ := nm (ppOk p ⟨vs, x⟩)
 obtain ⟨Y, hY⟩ := nm (ppV p ⟨vs, x⟩)
 obtain ⟨d, hd⟩ := nm (decide (Y = ⟨vs, x⟩))
 obtain ⟨op, hop⟩ := nm (partOk ⟨l2, x2⟩ v2)
 obtain ⟨Z, hZ⟩ := nm (partV ⟨l2, x2⟩ v2 t2)
 obtain ⟨U, hU⟩ := nm (sel yesE Ext.tag Z.exts)
 rw [← hL] at k3 k6 lL n1 n2
 rw [← hG] at k4 k7 lG n1 n2
 rw [← hT] at k5 k6 lT
 rw [← hc] at k8 n1
 rw [← hu] at k9
 rw [← hw] at k10
 rw [← hok] at k11 n2
 rw [← hY] at k11 k12 n2
 rw [← hd] at k12
 rw [← hop] at j3 j4 n3
 rw [← hZ] at j3 j4 j5 j6 j7 j8 n3
 rw [← hU] at j7 j8 n3
 have n2' : 0 < L.length + G.length → ok = true → d = false := fun h1 h2 => by
  rw [hd, decide_eq_false_iff_not]
  intro e
  obtain ⟨a, b⟩ := n2 h2 e
  rw [a, b] at h1
  simp at h1
 simp only at k10 k11 k12 j3 j4
 clear hL hG hT hc hu hw hok hop hZ hU n2
 obtain ⟨eb, heb⟩ := nm (row fU code)
 obtain ⟨ep, hep⟩ := nm (row fBox p)
 obtain ⟨ev, hev⟩ := nm (row fI vs)
 obtain ⟨ex, hex⟩ := nm (row fExt x)
 obtain ⟨eL, heL⟩ := nm (row fI L)
 obtain ⟨eG, heG⟩ := nm (row fI G)
 obtain ⟨eT, heT⟩ := nm (row fI T)
 obtain ⟨y1, hy1⟩ := nm (row fI Y.versions)
 obtain ⟨y2, hy2⟩ := nm (row fExt Y.exts)
 obtain ⟨z1, hz1⟩ := nm (row fI l2)
 obtain ⟨z2, hz2⟩ := nm (row fExt x2)
 obtain ⟨z3, hz3⟩ := nm (row fI v2)
 obtain ⟨z4, hz4⟩ := nm (row fI t2)
 obtain ⟨p1, hp1⟩ := nm (row fI Z.versions)
 obtain ⟨p2, hp2⟩ := nm (row fExt Z.exts)
 obtain ⟨eU, heU⟩ := nm (row fI U)
 rw [← heb] at k1 k2 j2 ⊢
 rw [← hep, ← hev, ← hex] at k2 k3
 rw [← heL] at k3 k6
 rw [← hep, ← hev] at k4 k9
 rw [← heG] at k4 k7
 rw [← hex] at k5
 rw [← heT] at k5 k6
 rw [← hev] at k7
 rw [← hep] at k8
 rw [← hev, ← hex] at k10 k11 k12
 rw [← hep] at k11
 rw [← hy1, ← hy2] at k11 k12
 rw [← hz1, ← hz2, ← hz3, ← hz4] at j2 j3 j4
 rw [← hp1, ← hp2] at j3 j4 j5
 rw [← hp1, ← hz3] at j6
 rw [← hp2] at j7
 rw [← heU] at j7 j8
 rw [← hz4] at j8
 rw [← hz1] at j9 j10
 rw [show row fExt [] = [] from rfl] at j10
 refine fix_fn2 (fn := ir41) tb_41 rfl rfl (by decide) rfl ?_; intro Q hQ; simp only [shutArgs, shutS, List.map_cons, List.map_nil, ir41, shut_in h0, List.head?_nil, reduceCtorEq, if_false, sExt, sHello, sAnswer, sEdit, sDeal, sBox, sDialed, sKnown]
 intro add sub mul arith eq ne lt le gt ge neg conv mn mx not beq len at' ln bd cut app allS isNil mks set o hP F ho
 rw [← ho] at k1 k2 k3 k4 k5 k6 k7 k8 k9 k10 k11 j2 j3 j4 j5 j6 j7 j8 j9 j10
 have k12a := k12 (f := .sp 0 0) (g := .sp 0 1) rfl rfl
 have k12b := k12 (f := .nl) (g := .nl) rfl rfl
 clear k12
 rw [← ho] at k12a k12b
 have m1 := F.len_at heL
 have m2 := F.len_at heG
 have hgt : gt (add .i64 (len eL) (len eG)) 0 = decide (0 < L.length + G.length) := by
  unfold At at m1 m2
  rw [F.gt, F.add, m1, m2, wrap64 (by omega) (by omega)]
  simp
  omega
 have g4 : not true = false := by rw [F.not]; rfl
 have g5 : not false = true := by rw [F.not]; rfl
 have g6 : not (beq op op) = false := by rw [F.not, F.beq]; simp
 have g7 : eq (len []) 0 = true := by rw [F.eq, F.len]; rfl
 as_aux_lemma =>
  cbv
  rw [k1]; cbv
  rw [k2]; cbv
  rw [k3]; cbv
  rw [k4]; cbv
  rw [k5]; cbv
  rw [k6]; cbv
  rw [g4]; cbv
  rw [k7]; cbv
  rw [g4]; cbv
  rw [k8]; cbv
  apply share2 (P := True)
  case' main =>
   intro key
   apply shareA (α := List (Cell Unit))
   case' main =>
    intro keyT
    apply shareA (α := List (Cell Unit))
    case main =>
     intro keyF
     refine both (fun ec => ?_) (fun ec => ?_) <;> rw [ec] <;> cbv
     ·obtain ⟨e1, e2⟩ := n1 ec
      have hg : gt (add .i64 (len eL) (len eG)) 0 = false := by rw [hgt, e1, e2]; rfl
      rw [hg]; cbv
      rw [hg]; cbv
      exact key trivial
     refine both (fun e => ?_) (fun e => ?_) <;> rw [e] <;> cbv
     ·rw [hgt, decide_eq_true_eq] at e
      rw [k9]; cbv
      refine both (fun eu => ?_) (fun eu => ?_) <;> rw [eu] <;> cbv
      ·rw [k10]; cbv
       refine both (fun ew => ?_) (fun ew => ?_) <;> rw [ew] <;> cbv
       ·have kk := k11
        rcases kk with kk | ⟨a1, a2, kk⟩
        ·rw [kk]; cbv
         refine both (fun eo => ?_) (fun eo => ?_) <;> rw [eo] <;> cbv
         ·have hd' := n2' e eo
          rw [k12a, hd']; cbv
          generalize ([⟨.row () y1, .ow false⟩, ⟨.row () y2, .ow false⟩] : List (Cell Unit)) = cs
          exact keyT cs
         ·generalize ([⟨.row () y1, .ow false⟩, ⟨.row () y2, .ow false⟩] : List (Cell Unit)) = cs
          exact keyF cs
        ·rw [kk]; cbv
         refine both (fun eo => ?_) (fun eo => ?_) <;> rw [eo] <;> cbv
         ·have hd' := n2' e eo
          have k12c : o 131 [sHello [] [] .nl .nl, sHello ev ex (.sp 1 0) (.sp 1 1)] = some ⟨[B false], [], none⟩ := by
           have h' := k12b
           rw [hd', hy1, hy2, a1, a2] at h'
           exact h'
          rw [k12c]; cbv
          exact keyT _
         ·exact keyF _
       ·exact key trivial
      ·exact key trivial
     ·exact key trivial
  all_goals
   intro cs
   as_aux_lemma =>
    rw [j2]; cbv
    cases op with
    | true =>
     obtain ⟨b1, b2, b3, b4⟩ := n3 rfl
     rw [b1] at j5
     rw [b2] at j6
     rw [b3] at j8
     rw [b4] at j10
     rw [show row fI [] = [] from rfl] at j6 j8
     have j3' := j3.resolve_right (fun e => by
      obtain ⟨e1, _, _⟩ := e
      unfold isHel at b1
      rw [e1] at b1
      simp [areVer] at b1)
     rw [j3']; cbv
     apply shareA (α := List (Cell Unit))
     case main =>
      intro key4
      as_aux_lemma =>
       have jj := j4.symm
       rcases jj with (⟨_, j4⟩ | ⟨_, _, j4⟩) | j4
       ·rw [j4]; cbv
        generalize ([⟨.row () p1, .ow false⟩, ⟨.row () [], .nl⟩] : List (Cell Unit)) = cs4
        exact key4 cs4
       ·rw [j4]; cbv
        exact key4 _
       ·rw [j4]; cbv
        exact key4 _
     case proof =>
     intro cs4
     as_aux_lemma =>
      rw [g6]; cbv
      rw [g4]; cbv
      rw [j5]; cbv
      rw [j6]; cbv
      rw [g7]; cbv
      rw [j7]; cbv
      rw [j8]; cbv
      rw [g7]; cbv
      rw [j9]; cbv
      rw [j10]; cbv
      rw [hQ]; cbv
      exact congrArg some hr
    | false =>
     rcases j3 with j3 | ⟨_, _, j3⟩
     all_goals
      rw [j3]; cbv
      apply shareA (α := List (Cell Unit))
      case main =>
       intro key4
       as_aux_lemma =>
        have jj := j4.symm
        rcases jj with (⟨_, j4⟩ | ⟨_, _, j4⟩) | j4
        ·rw [j4]; cbv
         generalize ([⟨.row () p1, .ow false⟩, ⟨.row () [], .nl⟩] : List (Cell Unit)) = cs4
         exact key4 cs4
        ·rw [j4]; cbv
         exact key4 _
        ·rw [j4]; cbv
         exact key4 _
      case proof =>
      intro cs4
      as_aux_lemma =>
       rw [g6]; cbv
       rw [g5]; cbv
       rw [hQ]; cbv
       exact congrArg some hr
theorem ans41 : Answers Tb md 41 [(false, [.row [.int .u8]])] := answers_of (by
 intro vs h
 obtain ⟨_, _, rfl, h1, h⟩ := fitL_cons h
 cases fitL_nil h
 obtain ⟨l, rfl, wl⟩ := fit_row (fun _ => fitL_U) h1
 exact law41 l)
end Go.Vm
