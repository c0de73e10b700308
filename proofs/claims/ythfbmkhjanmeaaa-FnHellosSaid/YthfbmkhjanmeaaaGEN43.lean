/- What the law answers. -/
import Derived.Test.YthfbmkhjanmeaaaGETab
import Derived.Test.YthfbmkhjanmeaaaGEFA
import Derived.Test.YthfbmkhjanmeaaaGEFB
import Derived.Test.YthfbmkhjanmeaaaGEFC
import Derived.Test.YthfbmkhjanmeaaaGEFD
import Derived.Test.YthfbmkhjanmeaaaGEFE
import Derived.Test.YthfbmkhjanmeaaaGEFG
set_option maxHeartbeats 4000000
set_option maxRecDepth 10000
set_option linter.unusedVariables false
set_option linter.unusedSimpArgs false
namespace Go.Vm
set_option maxHeartbeats 16000000 in
theorem law43 (code : List Int) :
  fix Tb md 43 [R (row fU code) (.sp 0 0)] = some ⟨[B true], [], none⟩ := by
 have h0 : inFl (.sp 0 0) = true := rfl
 have k1 := ok108 code (f0 := .sp 0 0) rfl
 obtain ⟨v, hv⟩ := nm (decide (1048576 < code.length))
 rw [← hv] at k1
 generalize hr : (⟨_, [], none⟩ : Ret) = r
 cases v with
 | true =>
  obtain ⟨eB, heB⟩ := nm (row fU code)
  rw [← heB] at k1 ⊢
  refine fix_fn2 (fn := ir43) tb_43 rfl rfl (by decide) rfl ?_; intro Q hQ; simp only [shutArgs, shutS, List.map_cons, List.map_nil, ir43, shut_in h0, List.head?_nil, reduceCtorEq, if_false, sExt, sHello, sAnswer, sEdit, sDeal, sBox, sDialed, sKnown]
  intro add sub mul arith eq ne lt le gt ge neg conv mn mx not beq len at' ln bd cut app allS isNil mks set o hP F ho
  rw [← ho] at k1
  cbv
  rw [k1]; cbv
  rw [hQ]; cbv
  exact congrArg some hr
 | false =>
 have hl : code.length ≤ 1048576 := by
  have : ¬ 1048576 < code.length := of_decide_eq_false hv.symm
  omega
 obtain ⟨_, k2, vs, x, rfl, hvs, hx⟩ := dr193 code hl
 obtain ⟨_, j1, c, fc, rfl, hc, hfc⟩ := dr194 code hl
 obtain ⟨_, m1, v2, t, l2, x2, rfl, hv2, ht, hl2, hx2⟩ := dr195 code hl
 have mh : (⟨vs, x⟩ : Hello).Mid := ⟨by have := hvs.1; simp only; omega, by have := hx.1; simp only; omega, fun y hy => by have := (hx.2 y hy).2.1; show y.body.length ≤ _; omega⟩
 have mz : (⟨l2, x2⟩ : Hello).Mid := ⟨by have := hl2.1; simp only; omega, by have := hx2.1; simp only; omega, fun y hy => by have := (hx2.2 y hy).2.1; show y.body.length ≤ _; omega⟩
 have mh' : ∀ y ∈ x, y.body.length ≤ 1099511627776 := fun y hy => Nat.le_trans (mh.2.2 y hy) (by decide)
 have hvl := hvs.1
 have hxl := hx.1
 have hl2l := hl2.1
 have hx2l := hx2.1
 have hv2l := hv2.1
 have htl := ht.1
 have sb := helB_small ⟨vs, x⟩
 have k5 := ok113 ⟨vs, x⟩ (by simp only; omega) (by simp only; omega) mh' (f0 := .sp 0 0) (f1 := .sp 0 1) rfl rfl
 have k6 := ok142 ⟨vs, x⟩ (by simp only; omega) (by simp only; omega) mh' (f0 := .sp 0 0) (f1 := .sp 0 1) rfl rfl
 have k7 := ok131 ⟨vs, x⟩ ⟨vs, x⟩ (by simp only; omega) (by simp only; omega) mh' (f0 := .sp 0 0) (f1 := .sp 0 1) (g0 := .sp 1 0) (g1 := .sp 1 1) rfl rfl rfl rfl
 rw [decide_eq_true rfl] at k7
 have K3 : isHel ⟨vs, x⟩ = true → fix Tb md 163 [sHello (row fI vs) (row fExt x) (.sp 0 0) (.sp 0 1)] = some ⟨[R (row fI (helB ⟨vs, x⟩)) (.ow false)], [], none⟩ ∧ fix Tb md 158 [R (row fI (helB ⟨vs, x⟩)) (.sp 0 0)] = some ⟨[sHello (row fI vs) (row fExt x) (.ow false) (.ow false), B true], [], none⟩ := by
  intro q
  have e := rd_hel q
  have a := ok163 ⟨vs, x⟩ mh (f0 := .sp 0 0) (f1 := .sp 0 1) rfl rfl
  have b := ok158 (helB ⟨vs, x⟩) (by omega) (f0 := .sp 0 0) rfl
  unfold rdV rdOk at b
  rw [e] at b
  refine ⟨a.resolve_right (fun e' => ?_), b.resolve_right (fun e' => ?_)⟩
  ·have := e'.1
   unfold helB at this
   rw [if_pos q] at this
   simp at this
  ·have := e'.1
   simp only at this
   rw [this] at q
   simp [isHel, areVer] at q
 have K4 : isHel ⟨vs, x⟩ = false → (fix Tb md 163 [sHello (row fI vs) (row fExt x) (.sp 0 0) (.sp 0 1)] = some ⟨[R [] (.ow false)], [], none⟩ ∨ fix Tb md 163 [sHello (row fI vs) (row fExt x) (.sp 0 0) (.sp 0 1)] = some ⟨[R [] .nl], [], none⟩) ∧ ∀ f : Fl, inFl f = true → (fix Tb md 158 [R [] f] = some ⟨[sHello [] [] (.ow false) (.ow false), B false], [], none⟩ ∨ fix Tb md 158 [R [] f] = some ⟨[sHello [] [] .nl .nl, B false], [], none⟩) := by
  intro q
  have e : helB ⟨vs, x⟩ = [] := by unfold helB; rw [q]; rfl
  have a := ok163 ⟨vs, x⟩ mh (f0 := .sp 0 0) (f1 := .sp 0 1) rfl rfl
  rw [e] at a
  refine ⟨a.imp (fun h => h) (fun h => h.2), fun f hf => ?_⟩
  have b := ok158 [] (by simp) hf
  exact b.imp (fun h => h) (fun h => h.2.2)
 have ym : (rdV c).Mid := rdV_mid (by omega)
 have J2 : rdOk c = true → fix Tb md 158 [R (row fI c) (.sp 0 0)] = some ⟨[sHello (row fI (rdV c).versions) (row fExt (rdV c).exts) (.ow false) (.ow false), B true], [], none⟩ ∧ fix Tb md 163 [sHello (row fI (rdV c).versions) (row fExt (rdV c).exts) (.sp 0 0) (.sp 0 1)] = some ⟨[R (row fI c) (.ow false)], [], none⟩ := by
  intro q
  have e : rdG c = (rdV c, true) := Prod.ext rfl q
  have a := ok158 c (by omega) (f0 := .sp 0 0) rfl
  have b := ok163 (rdV c) ym (f0 := .sp 0 0) (f1 := .sp 0 1) rfl rfl
  have hb := rd_inv e
  have hne : helB (rdV c) ≠ [] := by
   intro e'
   rw [hb] at e'
   rw [e'] at q
   cases q
  have hq : isHel (rdV c) = true := by
   unfold helB at hne
   split at hne
   ·assumption
   ·exact absurd rfl hne
  rw [q] at a
  rw [hb] at b
  refine ⟨a.resolve_right (fun e' => ?_), b.resolve_right (fun e' => ?_)⟩
  ·have := e'.1
   unfold isHel at hq
   rw [this] at hq
   simp [areVer] at hq
  ·rw [hb] at hne
   exact hne e'.1
 have J3 : rdOk c = false → (fix Tb md 158 [R (row fI c) (.sp 0 0)] = some ⟨[sHello (row fI (rdV c).versions) (row fExt (rdV c).exts) (.ow false) (.ow false), B false], [], none⟩ ∨ fix Tb md 158 [R (row fI c) (.sp 0 0)] = some ⟨[sHello [] [] .nl .nl, B false], [], none⟩) := by
  intro q
  have a := ok158 c (by omega) (f0 := .sp 0 0) rfl
  rw [q] at a
  exact a.imp (fun h => h) (fun h => h.2.2)
 have j4 := ok177 c c (by omega) (f0 := .sp 0 0) (f1 := .sp 1 0) rfl rfl
 rw [decide_eq_true rfl] at j4
 have am : (caV v2 t ⟨l2, x2⟩).Mid := caV_mid mz
 have M2 := fun q => ok169a v2 t ⟨l2, x2⟩ (by omega) (by omega) mz (f0 := .sp 0 0) (f1 := .sp 1 0) (f2 := .sp 2 0) (f3 := .sp 2 1) rfl rfl rfl rfl q
 have M3 := fun q => ok169b v2 t ⟨l2, x2⟩ (by omega) (by omega) mz (f0 := .sp 0 0) (f1 := .sp 1 0) (f2 := .sp 2 0) (f3 := .sp 2 1) rfl rfl rfl rfl q
 have m4 := ok161 ⟨l2, x2⟩ (caV v2 t ⟨l2, x2⟩) mz am (f0 := .sp 0 0) (f1 := .sp 0 1) (f2 := .sp 1 1) rfl rfl rfl
 have m5 := ok111 v2 l2 (by omega) (by omega) (f0 := .sp 0 0) (f1 := .sp 1 0) rfl rfl
 have m6 := ok179 (caV v2 t ⟨l2, x2⟩).exts am.1 (f0 := .sp 0 0) rfl
 have m7 := ok178 (sel yesE Ext.tag (caV v2 t ⟨l2, x2⟩).exts) t (Nat.le_trans sel_len (Nat.le_trans am.1 (by decide))) (by omega) (f0 := .sp 0 0) (f1 := .sp 1 0) rfl rfl
 have M8 : caOk v2 ⟨l2, x2⟩ = true → fix Tb md 152 [sAnswer (caV v2 t ⟨l2, x2⟩).version (row fExt (caV v2 t ⟨l2, x2⟩).exts) (.sp 0 1)] = some ⟨[R (row fI (ansB (caV v2 t ⟨l2, x2⟩))) (.ow false)], [], none⟩ := by
  intro q
  have a := ok152 (caV v2 t ⟨l2, x2⟩) (Nat.le_trans am.1 (by decide)) (fun y hy => Nat.le_trans (am.2 y hy) (by decide)) (f0 := .sp 0 1) rfl
  refine a.resolve_right (fun e' => ?_)
  have := (ca_good (tg := t) q).2.2.2
  rw [e'.1] at this
  simp at this
 have M9 := fun q => ca_good (vs := v2) (tg := t) (h := ⟨l2, x2⟩) q
 obtain ⟨u, hu⟩ := nm (isHel ⟨vs, x⟩)
 obtain ⟨b, hb⟩ := nm (helB ⟨vs, x⟩)
 obtain ⟨fine, hfine⟩ := nm (rdOk c)
 obtain ⟨Y, hY⟩ := nm (rdV c)
 obtain ⟨q, hq⟩ := nm (caOk v2 ⟨l2, x2⟩)
 obtain ⟨A, hA⟩ := nm (caV v2 t ⟨l2, x2⟩)
 obtain ⟨T, hT⟩ := nm (sel yesE Ext.tag A.exts)
 obtain ⟨n, hn⟩ := nm A.version
 obtain ⟨D, hD⟩ := nm (ansB A)
 rw [← hu] at k5 k6 K3 K4
 rw [← hb] at K3
 rw [← hfine, ← hY] at J2 J3
 rw [← hq] at M2 M3 M8 M9
 rw [← hA] at M2 m4 m6 m7 M8 M9
 rw [← hT] at m6 m7 M9
 rw [← hn] at M2 m4 M8 M9
 rw [← hD] at M8 M9
 simp only at M9 k5 k6 k7 M2 M3 m4
 clear hu hb hfine hY hq hA hT hn hD
 obtain ⟨eB, heB⟩ := nm (row fU code)
 obtain ⟨ev, hev⟩ := nm (row fI vs)
 obtain ⟨ex, hex⟩ := nm (row fExt x)
 obtain ⟨eb, heb⟩ := nm (row fI b)
 obtain ⟨ec, hec⟩ := nm (row fI c)
 obtain ⟨y1, hy1⟩ := nm (row fI Y.versions)
 obtain ⟨y2, hy2⟩ := nm (row fExt Y.exts)
 obtain ⟨ew, hew⟩ := nm (row fI v2)
 obtain ⟨et, het⟩ := nm (row fI t)
 obtain ⟨z1, hz1⟩ := nm (row fI l2)
 obtain ⟨z2, hz2⟩ := nm (row fExt x2)
 obtain ⟨a1, ha1⟩ := nm (row fExt A.exts)
 obtain ⟨eT, heT⟩ := nm (row fI T)
 obtain ⟨eD, heD⟩ := nm (row fI D)
 rw [← heB] at k1 k2 j1 m1 ⊢
 rw [← hev, ← hex] at k2 k5 k6 k7 K3 K4
 rw [← heb] at K3
 rw [← hec] at j1 J2 J3 j4
 rw [← hy1, ← hy2] at J2 J3
 rw [← hew, ← het, ← hz1, ← hz2] at m1 M2 M3
 rw [← ha1] at M2 m4 m6 M8
 rw [← hz1, ← hz2] at m4
 rw [← hew, ← hz1] at m5
 rw [← heT] at m6 m7
 rw [← het] at m7
 rw [← heD] at M8
 have j1' : fix Tb md 194 [R eB (.sp 0 0)] = some ⟨[R ec (.ow false)], [], none⟩ ∨ fix Tb md 194 [R eB (.sp 0 0)] = some ⟨[R ec .no], [], none⟩ := by
  rcases hfc with e | e <;> rw [e] at j1
  ·exact .inl j1
  ·exact .inr j1
 clear j1
 refine fix_fn2 (fn := ir43) tb_43 rfl rfl (by decide) rfl ?_; intro Q hQ; simp only [shutArgs, shutS, List.map_cons, List.map_nil, ir43, shut_in h0, List.head?_nil, reduceCtorEq, if_false, sExt, sHello, sAnswer, sEdit, sDeal, sBox, sDialed, sKnown]
 intro add sub mul arith eq ne lt le gt ge neg conv mn mx not beq len at' ln bd cut app allS isNil mks set o hP F ho
 rw [← ho] at k1 k2 k5 k6 k7 K3 K4 j1' J2 J3 j4 m1 M2 M3 m4 m5 m6 m7 M8
 have g4 : not true = false := by rw [F.not]; rfl
 have g5 : not false = true := by rw [F.not]; rfl
 have g6 : not (beq true true) = false := by rw [F.not, F.beq]; rfl
 have g7 : not (beq false false) = false := by rw [F.not, F.beq]; rfl
 have g8 : eq 0 0 = true := by rw [F.eq]; rfl
 have g9 : eq (len []) 0 = true := by rw [F.eq, F.len]; rfl
 have g10 : eq n n = true := by rw [F.eq]; simp
 have l1 := F.len_at heD
 as_aux_lemma =>
  cbv
  rw [k1]; cbv
  rw [k2]; cbv
  rcases Bool.eq_false_or_eq_true u with eu | eu
  case' inl =>
   obtain ⟨k3, k4⟩ := K3 eu
   rw [eu] at k5 k6
   rw [k3]; cbv
   rw [k4]; cbv
   rw [k5]; cbv
   rw [g6]; cbv
   rw [k6]; cbv
   rw [g6]; cbv
   rw [k7]; cbv
   rw [g4]; cbv
  case' inr =>
   obtain ⟨k3, k4⟩ := K4 eu
   rw [eu] at k5 k6
   apply shareB (α := List (Cell Unit)) (β := List (Cell Unit))
   case main =>
    intro key
    have k3' := k3
    rcases k3' with k3' | k3'
    ·have kk := k4 (.sp 0 0) rfl
     rcases kk with kk | kk
     ·rw [k3']; cbv
      rw [kk]; cbv
      rw [k5]; cbv
      rw [g7]; cbv
      rw [k6]; cbv
      rw [g7]; cbv
      generalize ([⟨.row () [], .ow false⟩, ⟨.row () [], .ow false⟩] : List (Cell Unit)) = cs'
      generalize ([⟨.row () [], .ow false⟩] : List (Cell Unit)) = cs
      exact key cs cs'
     ·rw [k3']; cbv
      rw [kk]; cbv
      rw [k5]; cbv
      rw [g7]; cbv
      rw [k6]; cbv
      rw [g7]; cbv
      exact key _ _
    ·have kk := k4 .nl rfl
     rcases kk with kk | kk
     ·rw [k3']; cbv
      rw [kk]; cbv
      rw [k5]; cbv
      rw [g7]; cbv
      rw [k6]; cbv
      rw [g7]; cbv
      exact key _ _
     ·rw [k3']; cbv
      rw [kk]; cbv
      rw [k5]; cbv
      rw [g7]; cbv
      rw [k6]; cbv
      rw [g7]; cbv
      exact key _ _
   case' proof => intro cs cs'
  all_goals
   as_aux_lemma =>
    rcases Bool.eq_false_or_eq_true fine with ef | ef
    case' inl =>
     obtain ⟨j2, j3⟩ := J2 ef
     apply shareA (α := List (Cell Unit))
     case main =>
      intro key
      have jj := j1'
      rcases jj with jj | jj
      ·rw [jj]; cbv
       rw [j2]; cbv
       rw [j3]; cbv
       rw [j4]; cbv
       rw [g4]; cbv
       generalize ([⟨.row () ec, .ow false⟩] : List (Cell Unit)) = cs7
       exact key cs7
      ·rw [jj]; cbv
       rw [j2]; cbv
       rw [j3]; cbv
       rw [j4]; cbv
       rw [g4]; cbv
       exact key _
     case' proof => intro cs7
    case' inr =>
     have j2 := J3 ef
     apply shareB (α := List (Cell Unit)) (β := List (Cell Unit))
     case main =>
      intro key
      have jj := j1'
      rcases jj with jj | jj
      ·have j2' := j2
       rcases j2' with j2' | j2'
       ·rw [jj]; cbv
        rw [j2']; cbv
        generalize ([⟨.row () ec, .ow false⟩] : List (Cell Unit)) = cs7
        generalize ([⟨.row () y1, .ow false⟩, ⟨.row () y2, .ow false⟩] : List (Cell Unit)) = cs8
        exact key cs7 cs8
       ·rw [jj]; cbv
        rw [j2']; cbv
        exact key _ _
      ·have j2' := j2
       rcases j2' with j2' | j2'
       ·rw [jj]; cbv
        rw [j2']; cbv
        exact key _ _
       ·rw [jj]; cbv
        rw [j2']; cbv
        exact key _ _
     case' proof => intro cs7 cs8
    all_goals
     as_aux_lemma =>
      rw [m1]; cbv
      rcases Bool.eq_false_or_eq_true q with eq' | eq'
      ·obtain ⟨r1, r2, r3, r4⟩ := M9 eq'
       have g11 : gt (len eD) 0 = true := by
        unfold At at l1
        rw [F.gt, l1]; simp; omega
       rw [r1] at m4
       rw [← r2] at m5
       rw [r3] at m7
       rw [M2 eq']; cbv
       rw [g4]; cbv
       rw [m4]; cbv
       rw [m5]; cbv
       rw [g10]; cbv
       rw [m6]; cbv
       rw [m7]; cbv
       rw [M8 eq']; cbv
       rw [g11]; cbv
       rw [hQ]; cbv
       exact congrArg some hr
      ·rw [M3 eq']; cbv
       rw [g5]; cbv
       rw [g8]; cbv
       rw [g9]; cbv
       rw [hQ]; cbv
       exact congrArg some hr
theorem ans43 : Answers Tb md 43 [(false, [.row [.int .u8]])] := answers_of (by
 intro vs h
 obtain ⟨_, _, rfl, h1, h⟩ := fitL_cons h
 cases fitL_nil h
 obtain ⟨l, rfl, wl⟩ := fit_row (fun _ => fitL_U) h1
 exact law43 l)
end Go.Vm
