/- What the functions answer. -/
import Derived.Test.YtijojkfdbpiimaaGreatGCTab
import Derived.Test.YtijojkfdbpiimaaGreatGCFA
import Derived.Test.YtijojkfdbpiimaaGreatGCFB
import Derived.Test.YtijojkfdbpiimaaGreatGCFC
import Derived.Test.YtijojkfdbpiimaaGreatGCFD
import Derived.Test.YtijojkfdbpiimaaGreatGCFE
import Derived.Test.YtijojkfdbpiimaaGreatGCFF
set_option maxHeartbeats 4000000
set_option maxRecDepth 10000
set_option linter.unusedVariables false
set_option linter.unusedSimpArgs false
namespace Go.Vm
theorem ok163a (h : Hello) (mh : h.Mid) {f0 f1 : Fl} (q0 : inFl f0 = true) (q1 : inFl f1 = true) (q : isHel h = true) : fix Tb md 163 [sHello (row fI h.versions) (row fExt h.exts) f0 f1] = some ⟨[R (row fI (helB h)) (.ow false)], [], none⟩ := by
 rcases ok163 h mh q0 q1 with k | ⟨k, _⟩
 ·exact k
 ·unfold helB at k; rw [q] at k; simp at k
theorem ok152a (a : Answer) (hl : a.exts.length ≤ 1099511627776) (w : ∀ y ∈ a.exts, y.body.length ≤ 1099511627776) {f0 : Fl} (h0 : inFl f0 = true) (q : isAns a.version a.exts = true) : fix Tb md 152 [sAnswer a.version (row fExt a.exts) f0] = some ⟨[R (row fI (ansB a)) (.ow false)], [], none⟩ := by
 rcases ok152 a hl w h0 with k | ⟨k, _⟩
 ·exact k
 ·exact absurd k (ansB_ne q)
theorem ok254r (h seen : Hello) (vs tg : List Int) (k : Int) (es : List Edit) (mh : h.Mid) (ms : seen.Mid) (hv : vs.length ≤ 1073741824) (ht : tg.length ≤ 1073741824) (he : es.length ≤ 1073741824) {f0 f1 f2 f3 f4 f5 f6 : Fl} (q0 : inFl f0 = true) (q1 : inFl f1 = true) (q2 : inFl f2 = true) (q3 : inFl f3 = true) (q4 : inFl f4 = true) (q5 : inFl f5 = true) (q6 : inFl f6 = true) (r : Ret)
  (rA : dlOk h seen vs tg k es = true → (⟨[sDeal true (dlG vs tg seen es).version (row fI (tags (dlG vs tg seen es).exts)) (.ow false)], [], none⟩ : Ret) = r) (rC : dlOk h seen vs tg k es = false → (⟨[sDeal false 0 [] .nl], [], none⟩ : Ret) = r) :
  fix Tb md 254 [sHello (row fI h.versions) (row fExt h.exts) f0 f1, sHello (row fI seen.versions) (row fExt seen.exts) f2 f3, R (row fI vs) f4, R (row fI tg) f5, I k, R (row fEdit es) f6] = some r := by
 cases hca : caOk vs seen with
 | false =>
  have hok : dlOk h seen vs tg k es = false := by unfold dlOk; rw [hca]; rfl
  replace rC := rC hok
  clear rA
  have k1 := ok169b vs tg seen hv ht ms (f0 := .sp 0 0) (f1 := .sp 1 0) (f2 := .sp 2 0) (f3 := .sp 2 1) rfl rfl rfl rfl hca
  obtain ⟨ev, hev⟩ := nm (row fI vs)
  obtain ⟨et, het⟩ := nm (row fI tg)
  obtain ⟨dv, hdv⟩ := nm (row fI h.versions)
  obtain ⟨dx, hdx⟩ := nm (row fExt h.exts)
  obtain ⟨sv, hsv⟩ := nm (row fI seen.versions)
  obtain ⟨sx, hsx⟩ := nm (row fExt seen.exts)
  obtain ⟨ee, hee⟩ := nm (row fEdit es)
  rw [← hev, ← het, ← hsv, ← hsx] at k1
  rw [← hev, ← het, ← hdv, ← hdx, ← hsv, ← hsx, ← hee]
  refine fix_fn2 (fn := ir254) tb_254 rfl rfl (by decide) rfl ?_; intro Q hQ; simp only [shutArgs, shutS, List.map_cons, List.map_nil, ir254, shut_in q0, shut_in q1, shut_in q2, shut_in q3, shut_in q4, shut_in q5, shut_in q6, List.head?_nil, reduceCtorEq, if_false, sExt, sHello, sAnswer, sEdit, sDeal, sBox, sDialed, sKnown]
  intro add sub mul arith eq ne lt le gt ge neg conv mn mx not beq len at' ln bd cut app allS isNil mks set o hP F ho
  rw [← ho] at k1
  cbv
  rw [k1]; cbv
  rw [show not false = true by rw [F.not]; rfl]; cbv
  rw [hQ]; cbv
  exact congrArg some rC
 | true =>
  obtain ⟨S, hS⟩ := nm (caV vs tg seen)
  obtain ⟨G, hG⟩ := nm (dlG vs tg seen es)
  have hGS : es.foldl editA S = G := by rw [hS, hG]; rfl
  have mS : S.Mid := by rw [hS]; exact caV_mid ms
  have mG : G.Mid := by rw [← hGS]; exact dlG_mid es mS
  have aS : isAns S.version S.exts = true := by rw [hS]; exact caV_ans hca
  have iS := caOk_hel hca
  have k1 := ok169a vs tg seen hv ht ms (f0 := .sp 0 0) (f1 := .sp 1 0) (f2 := .sp 2 0) (f3 := .sp 2 1) rfl rfl rfl rfl hca
  rw [← hS] at k1
  obtain ⟨fin, hfin⟩ := nm (dlF k vs tg seen)
  obtain ⟨u, hu⟩ := nm (fitsV h G)
  obtain ⟨v, hv_⟩ := nm (chkV k [helB h, ansB G] 1 fin)
  have hok : dlOk h seen vs tg k es = (u && v) := by unfold dlOk; rw [hca, Bool.true_and, ← hG, ← hfin, ← hu, ← hv_]
  rw [hok] at rA rC
  rw [← hG] at rA
  have wS : ∀ y ∈ S.exts, y.body.length ≤ 1099511627776 := fun y hy => Nat.le_trans (show y.body.length ≤ 1073741824 from mS.2 y hy) (by decide)
  have wG : ∀ y ∈ G.exts, y.body.length ≤ 1099511627776 := fun y hy => Nat.le_trans (show y.body.length ≤ 1073741824 from mG.2 y hy) (by decide)
  have lS : S.exts.length ≤ 1073741824 := mS.1
  have lG : G.exts.length ≤ 1073741824 := mG.1
  have bS : (ansB S).length ≤ 48 := Nat.le_trans (ansB_len S) (by decide)
  have bG : (ansB G).length ≤ 48 := Nat.le_trans (ansB_len G) (by decide)
  have k2 := ok163a seen ms (f0 := .sp 0 0) (f1 := .sp 0 1) rfl rfl iS
  have k3 := ok152a S (by omega) wS (f0 := .sp 0 1) rfl aS
  have k4 := ok144 k [helB seen, ansB S] 1 (two_w (helB_small seen) bS) (f0 := .sp 1 0) rfl
  rw [show finV k [helB seen, ansB S] 1 = fin by rw [hfin, hS]; rfl] at k4
  have k5 := ok161 h G mh mG (f0 := .sp 0 0) (f1 := .sp 0 1) (f2 := .sp 1 1) rfl rfl rfl
  rw [← hu] at k5
  have k6 := fun q : u = true => ok163a h mh (f0 := .sp 0 0) (f1 := .sp 0 1) rfl rfl (fits_parts (hu ▸ q)).1
  have k7 := fun q : u = true => ok152a G (by omega) wG (f0 := .sp 0 1) rfl (fits_parts (hu ▸ q)).2
  have k8 := ok146 k [helB h, ansB G] 1 fin (two_w (helB_small h) bG) (f0 := .sp 1 0) rfl
  rw [← hv_] at k8
  have k9 := ok179 G.exts (by omega) (f0 := .sp 0 0) rfl
  rw [show sel yesE Ext.tag G.exts = tags G.exts from rfl] at k9
  obtain ⟨ev, hev⟩ := nm (row fI vs)
  obtain ⟨et, het⟩ := nm (row fI tg)
  obtain ⟨dv, hdv⟩ := nm (row fI h.versions)
  obtain ⟨dx, hdx⟩ := nm (row fExt h.exts)
  obtain ⟨sv, hsv⟩ := nm (row fI seen.versions)
  obtain ⟨sx, hsx⟩ := nm (row fExt seen.exts)
  obtain ⟨ee, hee⟩ := nm (row fEdit es)
  obtain ⟨eS, heS⟩ := nm (row fExt S.exts)
  obtain ⟨eG, heG⟩ := nm (row fExt G.exts)
  obtain ⟨eT, heT⟩ := nm (row fI (tags G.exts))
  obtain ⟨b1, hb1⟩ := nm (row fI (helB seen))
  obtain ⟨b2, hb2⟩ := nm (row fI (ansB S))
  obtain ⟨b3, hb3⟩ := nm (row fI (helB h))
  obtain ⟨b4, hb4⟩ := nm (row fI (ansB G))
  rw [← hev, ← het, ← hsv, ← hsx, ← heS] at k1
  rw [← hsv, ← hsx, ← hb1] at k2
  rw [← heS, ← hb2] at k3
  simp only [row, fR, List.map_cons, List.map_nil] at k4 k8
  rw [show List.map fI (helB seen) = b1 from hb1.symm, show List.map fI (ansB S) = b2 from hb2.symm] at k4
  rw [show List.map fI (helB h) = b3 from hb3.symm, show List.map fI (ansB G) = b4 from hb4.symm] at k8
  rw [← hdv, ← hdx, ← heG] at k5
  rw [← hdv, ← hdx, ← hb3] at k6
  rw [← heG, ← hb4] at k7
  rw [← heG, ← heT] at k9
  rw [← heT] at rA
  rw [← hev, ← het, ← hdv, ← hdx, ← hsv, ← hsx, ← hee]
  refine fix_fn2 (fn := ir254) tb_254 rfl rfl (by decide) rfl ?_; intro Q hQ; simp only [shutArgs, shutS, List.map_cons, List.map_nil, ir254, shut_in q0, shut_in q1, shut_in q2, shut_in q3, shut_in q4, shut_in q5, shut_in q6, List.head?_nil, reduceCtorEq, if_false, sExt, sHello, sAnswer, sEdit, sDeal, sBox, sDialed, sKnown]
  intro add sub mul arith eq ne lt le gt ge neg conv mn mx not beq len at' ln bd cut app allS isNil mks set o hP F ho
  have le := F.len_at hee
  rw [← ho] at k1 k2 k3 k4 k5 k6 k7 k8 k9
  cbv
  rw [k1]; cbv
  rw [show not true = false by rw [F.not]; rfl]; cbv
  refine loop_ind2 hP (σ := List Edit × List Edit × Answer × Int × List (List V) × Int × Option (Int × Int)) (fun s => match s.2.2.2.2.2.2 with
   | none => [(0, sHello dv dx .sh .sh), (1, sHello sv sx .sh .sh), (2, R ev .sh), (3, R et .sh), (4, I k), (5, R ee .sh), (6, ⟨.ptr 75 0, []⟩), (7, ⟨.ptr 76 0, []⟩), (12, ⟨.ptr 81 0, []⟩), (13, ⟨.ptr 82 0, []⟩), (14, B true), (15, ⟨.ptr 84 0, []⟩), (30, R ee .sh), (31, I (len ee)), (32, I s.2.2.2.2.2.1), (75, ⟨.box (), [⟨.row () dv, .sh⟩, ⟨.row () dx, .sh⟩]⟩), (76, ⟨.box (), [⟨.row () sv, .sh⟩, ⟨.row () sx, .sh⟩]⟩), (81, ⟨.box (), [⟨.bool false, .sc⟩, ⟨.int .i64 0, .sc⟩, ⟨.row () [], .nl⟩]⟩), (82, ⟨.box (), [⟨.int .i64 S.version, .sc⟩, ⟨.row () eS, .fr⟩]⟩), (84, ⟨.box (), [⟨.int .i64 s.2.2.2.1, .sc⟩, ⟨.row () s.2.2.2.2.1, .ow false⟩]⟩)]
   | some j => [(0, sHello dv dx .sh .sh), (1, sHello sv sx .sh .sh), (2, R ev .sh), (3, R et .sh), (4, I k), (5, R ee .sh), (6, ⟨.ptr 75 0, []⟩), (7, ⟨.ptr 76 0, []⟩), (12, ⟨.ptr 81 0, []⟩), (13, ⟨.ptr 82 0, []⟩), (14, B true), (15, ⟨.ptr 84 0, []⟩), (17, ⟨.ptr 86 0, []⟩), (30, R ee .sh), (31, I (len ee)), (32, I s.2.2.2.2.2.1), (75, ⟨.box (), [⟨.row () dv, .sh⟩, ⟨.row () dx, .sh⟩]⟩), (76, ⟨.box (), [⟨.row () sv, .sh⟩, ⟨.row () sx, .sh⟩]⟩), (81, ⟨.box (), [⟨.bool false, .sc⟩, ⟨.int .i64 0, .sc⟩, ⟨.row () [], .nl⟩]⟩), (82, ⟨.box (), [⟨.int .i64 S.version, .sc⟩, ⟨.row () eS, .fr⟩]⟩), (84, ⟨.box (), [⟨.int .i64 s.2.2.2.1, .sc⟩, ⟨.row () s.2.2.2.2.1, .ow false⟩]⟩), (86, ⟨.box (), [⟨.int .i64 j.1, .sc⟩, ⟨.int .i64 j.2, .sc⟩]⟩)]) (fun s => At s.2.2.2.2.2.1 s.2.1.length ∧ es = s.2.1 ++ s.1 ∧ s.1.foldl editA s.2.2.1 = G ∧ s.2.2.1.Mid ∧ s.2.2.2.1 = s.2.2.1.version ∧ s.2.2.2.2.1 = row fExt s.2.2.1.exts) (fun s => s.1.length) (es, [], S, S.version, eS, 0, none) rfl ⟨rfl, rfl, hGS, mS, rfl, heS⟩ ?_
  intro c9 Q1 hc9 hQ1
  rintro ⟨suf, pre, a, ver, ex, i, j⟩ ⟨hi, hl', hb, ma, hver, hex⟩ ih
  simp only at hi hl' hb ma hver hex ih
  rcases j with _ | ⟨j1, j2⟩
  all_goals
   cbv
   cases suf with
   | nil =>
    have hpp : es = pre := by rw [hl', List.append_nil]
    have haG : a = G := hb
    rw [haG] at hver hex
    rw [← heG] at hex
    rw [F.lt_f hi le (by simp [hl'])]; cbv
    rw [hQ1]; cbv
    rw [hver, hex]
    rw [k2]; cbv
    rw [k3]; cbv
    rw [k4]; cbv
    rw [k5]; cbv
    refine both (fun d1 => ?_) (fun d1 => ?_) <;> rw [d1] <;> cbv
    ·rw [hQ]; cbv
     exact congrArg some (rC (by rw [F.not_t d1]; rfl))
    have hu1 := F.not_f d1
    rw [k6 hu1]; cbv
    rw [k7 hu1]; cbv
    rw [k8]; cbv
    refine both (fun d2 => ?_) (fun d2 => ?_) <;> rw [d2] <;> cbv
    ·rw [hQ]; cbv
     exact congrArg some (rC (by rw [hu1, F.not_t d2]; rfl))
    rw [k9]; cbv
    rw [hQ]; cbv
    exact congrArg some (rA (by rw [hu1, F.not_f d2]; rfl))
   | cons x suf =>
    rw [List.foldl_cons] at hb
    have hpl : pre.length ≤ 1073741824 := by rw [hl'] at he; simp at he; omega
    obtain ⟨ix, hix⟩ := nm (pre.length * 2)
    have p0 : at' 2 ee i = some (ix, [.int .i64 x.kind, .int .i64 x.n]) := by rw [hix]; exact F.get hi hee hl' (fun _ => rfl) (by decide)
    obtain ⟨a', ha'⟩ := nm (editA a x)
    have ma' : a'.Mid := by rw [ha']; exact editA_mid ma
    have la := ma.1
    have k0 := ok119 a x la (fun y hy => Nat.le_trans (show y.body.length ≤ 1073741824 from ma.2 y hy) (by decide)) (f0 := .sp 0 1) rfl
    rw [← ha'] at k0 hb
    obtain ⟨ver', hver'⟩ := nm (a'.version)
    obtain ⟨ex', hex'⟩ := nm (row fExt a'.exts)
    rw [← hver', ← hex', ← hver, ← hex, ← ho] at k0
    rw [F.lt_t hi le (by simp [hl'])]; cbv
    rw [p0]; cbv
    rw [k0]; cbv
    exact ih (suf, pre ++ [x], a', ver', ex', add .i64 i 1, some (x.kind, x.n)) ⟨at_len (F.inc hi (by omega)) (by simp), by rw [hl']; simp, hb, ma', hver', hex'⟩ (by simp)
theorem ok110r (h : Hello) (vs tg : List Int) (k : Int) (es : List Edit) (q : hB h 1048576 1048576) (hv : vs.length ≤ 1073741824) (ht : tg.length ≤ 1073741824) (he : es.length ≤ 1048576) {f0 f1 f2 f3 f4 : Fl} (q0 : inFl f0 = true) (q1 : inFl f1 = true) (q2 : inFl f2 = true) (q3 : inFl f3 = true) (q4 : inFl f4 = true) (r : Ret)
  (rA : rhOk h vs tg k es = true → (⟨[sDeal true (dlG vs tg (rhS h es) es).version (row fI (tags (dlG vs tg (rhS h es) es).exts)) (.ow false)], [], none⟩ : Ret) = r) (rC : rhOk h vs tg k es = false → (⟨[sDeal false 0 [] .nl], [], none⟩ : Ret) = r) :
  fix Tb md 110 [sHello (row fI h.versions) (row fExt h.exts) f0 f1, R (row fI vs) f2, R (row fI tg) f3, I k, R (row fEdit es) f4] = some r := by
 have mh : h.Mid := hB_mid q (by decide)
 have mh' := mh
 unfold Hello.Mid at mh'
 have wh : ∀ y ∈ h.exts, y.body.length ≤ 1099511627776 := fun y hy => Nat.le_trans (show y.body.length ≤ 1073741824 from mh'.2.2 y hy) (by decide)
 obtain ⟨seen, hseen⟩ := nm (rhS h es)
 have ms : seen.Mid := by rw [hseen]; exact rhS_mid q he
 obtain ⟨u, hu⟩ := nm (isHel h)
 obtain ⟨w, hw⟩ := nm (decide (6 < es.length))
 have hok : rhOk h vs tg k es = (u && (!w && dlOk h seen vs tg k es)) := by rw [hu, hw, hseen]; rfl
 rw [hok] at rA rC
 rw [← hseen] at rA
 have hfs : es.foldl editH h = seen := hseen.symm
 clear hok hseen
 have k1 := ok113 h (by omega) (by omega) wh (f0 := .sp 0 0) (f1 := .sp 0 1) rfl rfl
 rw [← hu] at k1
 obtain ⟨x, hx⟩ : ∃ x : SU, (dlOk h seen vs tg k es = true → sDeal true (dlG vs tg seen es).version (row fI (tags (dlG vs tg seen es).exts)) (.ow false) = x) ∧ (dlOk h seen vs tg k es = false → sDeal false 0 [] .nl = x) := by
  cases q : dlOk h seen vs tg k es with
  | true => exact ⟨_, fun _ => rfl, fun e => by cases e⟩
  | false => exact ⟨_, fun e => (by cases e), fun _ => rfl⟩
 have k2 := ok254r h seen vs tg k es mh ms hv ht (by omega) (f0 := .sp 0 0) (f1 := .sp 0 1) (f2 := .sp 1 0) (f3 := .sp 1 1) (f4 := .sp 2 0) (f5 := .sp 3 0) (f6 := .sp 5 0) rfl rfl rfl rfl rfl rfl rfl ⟨[x], [], none⟩ (fun e => by rw [← hx.1 e]) (fun e => by rw [← hx.2 e])
 obtain ⟨v, hv'⟩ := nm (dlOk h seen vs tg k es)
 rw [← hv'] at hx rA rC
 have hb : (v = true ∧ sDeal true (dlG vs tg seen es).version (row fI (tags (dlG vs tg seen es).exts)) (.ow false) = x) ∨ (v = false ∧ sDeal false 0 [] .nl = x) := by
  cases v
  ·exact .inr ⟨rfl, hx.2 rfl⟩
  ·exact .inl ⟨rfl, hx.1 rfl⟩
 clear hx hv'
 obtain ⟨X, hX⟩ := nm (dlG vs tg seen es)
 rw [← hX] at hb rA
 clear hX
 rcases hb with ⟨rfl, rfl⟩ | ⟨rfl, rfl⟩
 all_goals
  simp only [Bool.and_true, Bool.and_false] at rA rC
  obtain ⟨ev, hev⟩ := nm (row fI vs)
  obtain ⟨et, het⟩ := nm (row fI tg)
  obtain ⟨dv, hdv⟩ := nm (row fI h.versions)
  obtain ⟨dx, hdx⟩ := nm (row fExt h.exts)
  obtain ⟨sv, hsv⟩ := nm (row fI seen.versions)
  obtain ⟨sx, hsx⟩ := nm (row fExt seen.exts)
  obtain ⟨ee, hee⟩ := nm (row fEdit es)
  obtain ⟨eT, heT⟩ := nm (row fI (tags X.exts))
  rw [← hdv, ← hdx] at k1
  rw [← hdv, ← hdx, ← hsv, ← hsx, ← hev, ← het, ← hee] at k2
  try rw [← heT] at k2 rA
  rw [← hev, ← het, ← hdv, ← hdx, ← hee]
  refine fix_fn2 (fn := ir110) tb_110 rfl rfl (by decide) rfl ?_; intro Q hQ; simp only [shutArgs, shutS, List.map_cons, List.map_nil, ir110, shut_in q0, shut_in q1, shut_in q2, shut_in q3, shut_in q4, List.head?_nil, reduceCtorEq, if_false, sExt, sHello, sAnswer, sEdit, sDeal, sBox, sDialed, sKnown]
  intro add sub mul arith eq ne lt le gt ge neg conv mn mx not beq len at' ln bd cut app allS isNil mks set o hP F ho
  have le := F.len_at hee
  have g1 : gt (len ee) 6 = w := by rw [hw]; exact F.gt_n le (k := 6) (m := 6) rfl
  rw [← ho] at k1 k2
  cbv
  rw [k1]; cbv
  refine both (fun d1 => ?_) (fun d1 => ?_) <;> rw [d1] <;> cbv
  ·rw [hQ]; cbv
   exact congrArg some (rC (by first | trivial | (rw [F.not_t d1]; rfl)))
  rw [g1]
  refine both (fun d2 => ?_) (fun d2 => ?_) <;> rw [d2] <;> cbv
  ·rw [hQ]; cbv
   exact congrArg some (rC (by first | trivial | (rw [d2, F.not_f d1]; rfl)))
  have hu1 := F.not_f d1
  have h6 : es.length ≤ 6 := by rw [d2] at hw; simpa using hw.symm
  refine loop_ind2 hP (σ := List Edit × List Edit × Hello × List (List V) × List (List V) × Int × Option (Int × Int)) (fun s => match s.2.2.2.2.2.2 with
   | none => [(0, sHello dv dx .sh .sh), (1, R ev .sh), (2, R et .sh), (3, I k), (4, R ee .sh), (5, ⟨.ptr 46 0, []⟩), (10, ⟨.ptr 51 0, []⟩), (11, ⟨.ptr 52 0, []⟩), (24, R ee .sh), (25, I (len ee)), (26, I s.2.2.2.2.2.1), (46, ⟨.box (), [⟨.row () dv, .sh⟩, ⟨.row () dx, .sh⟩]⟩), (51, ⟨.box (), [⟨.bool false, .sc⟩, ⟨.int .i64 0, .sc⟩, ⟨.row () [], .nl⟩]⟩), (52, ⟨.box (), [⟨.row () s.2.2.2.1, .sh⟩, ⟨.row () s.2.2.2.2.1, .sh⟩]⟩)]
   | some j => [(0, sHello dv dx .sh .sh), (1, R ev .sh), (2, R et .sh), (3, I k), (4, R ee .sh), (5, ⟨.ptr 46 0, []⟩), (10, ⟨.ptr 51 0, []⟩), (11, ⟨.ptr 52 0, []⟩), (13, ⟨.ptr 54 0, []⟩), (24, R ee .sh), (25, I (len ee)), (26, I s.2.2.2.2.2.1), (46, ⟨.box (), [⟨.row () dv, .sh⟩, ⟨.row () dx, .sh⟩]⟩), (51, ⟨.box (), [⟨.bool false, .sc⟩, ⟨.int .i64 0, .sc⟩, ⟨.row () [], .nl⟩]⟩), (52, ⟨.box (), [⟨.row () s.2.2.2.1, .ow false⟩, ⟨.row () s.2.2.2.2.1, .ow false⟩]⟩), (54, ⟨.box (), [⟨.int .i64 j.1, .sc⟩, ⟨.int .i64 j.2, .sc⟩]⟩)]) (fun s => At s.2.2.2.2.2.1 s.2.1.length ∧ es = s.2.1 ++ s.1 ∧ s.1.foldl editH s.2.2.1 = seen ∧ hB s.2.2.1 (1048576 + s.2.1.length) (1048576 + s.2.1.length) ∧ s.2.2.2.1 = row fI s.2.2.1.versions ∧ s.2.2.2.2.1 = row fExt s.2.2.1.exts) (fun s => s.1.length) (es, [], h, dv, dx, 0, none) rfl ⟨rfl, rfl, hfs, q, hdv, hdx⟩ ?_
  intro c9 Q1 hc9 hQ1
  rintro ⟨suf, pre, a, av, ax, i, j⟩ ⟨hi, hl', hb, ma, hav, hax⟩ ih
  simp only at hi hl' hb ma hav hax ih
  have hpl : pre.length ≤ 6 := by rw [hl'] at h6; simp at h6; omega
  rcases j with _ | ⟨j1, j2⟩
  all_goals
   cbv
   cases suf with
   | nil =>
    have haS : a = seen := hb
    rw [haS] at hav hax
    rw [← hsv] at hav
    rw [← hsx] at hax
    rw [F.lt_f hi le (by simp [hl'])]; cbv
    rw [hQ1]; cbv
    rw [hav, hax]
    rw [k2]; cbv
    rw [hQ]; cbv
    first
     | exact congrArg some (rA (by rw [hu1, d2]; rfl))
     | exact congrArg some (rC (by rw [hu1, d2]; rfl))
     | exact congrArg some (rC rfl)
     | exact congrArg some (rC trivial)
   | cons x suf =>
    rw [List.foldl_cons] at hb
    obtain ⟨ix, hix⟩ := nm (pre.length * 2)
    have p0 : at' 2 ee i = some (ix, [.int .i64 x.kind, .int .i64 x.n]) := by rw [hix]; exact F.get hi hee hl' (fun _ => rfl) (by decide)
    obtain ⟨a', ha'⟩ := nm (editH a x)
    have ma' : hB a' (1048576 + (pre ++ [x]).length) (1048576 + (pre ++ [x]).length) := by rw [ha', List.length_append]; exact editH_b ma
    have k0 := ok117 a x ⟨by have := ma.1; omega, by have := ma.2.1; omega, ma.2.2⟩ (f0 := .sp 0 0) (f1 := .sp 0 1) rfl rfl
    rw [← ha'] at k0 hb
    obtain ⟨av', hav'⟩ := nm (row fI a'.versions)
    obtain ⟨ax', hax'⟩ := nm (row fExt a'.exts)
    rw [← hav', ← hax', ← hav, ← hax, ← ho] at k0
    rw [F.lt_t hi le (by simp [hl'])]; cbv
    rw [p0]; cbv
    rw [k0]; cbv
    exact ih (suf, pre ++ [x], a', av', ax', add .i64 i 1, some (x.kind, x.n)) ⟨at_len (F.inc hi (by omega)) (by simp), by rw [hl']; simp, hb, ma', hav', hax'⟩ (by simp)
theorem ok110f (h : Hello) (vs tg : List Int) (k : Int) (es : List Edit) (q : hB h 1048576 1048576) (hv : vs.length ≤ 1073741824) (ht : tg.length ≤ 1073741824) (he : es.length ≤ 1048576) {f0 f1 f2 f3 f4 : Fl} (q0 : inFl f0 = true) (q1 : inFl f1 = true) (q2 : inFl f2 = true) (q3 : inFl f3 = true) (q4 : inFl f4 = true) :
  fix Tb md 110 [sHello (row fI h.versions) (row fExt h.exts) f0 f1, R (row fI vs) f2, R (row fI tg) f3, I k, R (row fEdit es) f4] = some ⟨[sDeal (rhV h vs tg k es).ok (rhV h vs tg k es).version (row fI (rhV h vs tg k es).tags) (tF (rhOk h vs tg k es))], [], none⟩ := by
 cases e : rhOk h vs tg k es with
 | true =>
  refine ok110r h vs tg k es q hv ht he q0 q1 q2 q3 q4 _ (fun _ => ?_) (fun z => by rw [e] at z; cases z)
  rw [rhV, e]; rfl
 | false =>
  rw [show rhV h vs tg k es = ⟨false, 0, []⟩ by rw [rhV, e]; rfl]
  exact ok110r h vs tg k es q hv ht he q0 q1 q2 q3 q4 _ (fun z => by rw [e] at z; cases z) (fun _ => rfl)
theorem joint22 (h : Hello) (vs tg : List Int) (k : Int) (es : List Edit) (q : hB h 1048576 1048576) (hv : vs.length ≤ 1073741824) (ht : tg.length ≤ 1073741824) (he : es.length ≤ 1048576) {f0 f1 f2 f3 f4 : Fl} (q0 : inFl f0 = true) (q1 : inFl f1 = true) (q2 : inFl f2 = true) (q3 : inFl f3 = true) (q4 : inFl f4 = true) :
  ((fix Tb md 138 [sHello (row fI h.versions) (row fExt h.exts) f0 f1, R (row fI vs) f2, R (row fI tg) f3, I k, R (row fEdit es) f4] = some ⟨[sDeal (rhV h vs tg k es).ok (rhV h vs tg k es).version (row fI (rhV h vs tg k es).tags) (.ow false)], [], none⟩) ∧ (fix Tb md 110 [sHello (row fI h.versions) (row fExt h.exts) f0 f1, R (row fI vs) f2, R (row fI tg) f3, I k, R (row fEdit es) f4] = some ⟨[sDeal (rhV h vs tg k es).ok (rhV h vs tg k es).version (row fI (rhV h vs tg k es).tags) (.ow false)], [], none⟩)) ∨ (((rhV h vs tg k es).tags = [] ∧ fix Tb md 138 [sHello (row fI h.versions) (row fExt h.exts) f0 f1, R (row fI vs) f2, R (row fI tg) f3, I k, R (row fEdit es) f4] = some ⟨[sDeal (rhV h vs tg k es).ok (rhV h vs tg k es).version [] .nl], [], none⟩) ∧ ((rhV h vs tg k es).tags = [] ∧ fix Tb md 110 [sHello (row fI h.versions) (row fExt h.exts) f0 f1, R (row fI vs) f2, R (row fI tg) f3, I k, R (row fEdit es) f4] = some ⟨[sDeal (rhV h vs tg k es).ok (rhV h vs tg k es).version [] .nl], [], none⟩)) :=
 joinF (P := fun a f => fix Tb md 138 [sHello (row fI h.versions) (row fExt h.exts) f0 f1, R (row fI vs) f2, R (row fI tg) f3, I k, R (row fEdit es) f4] = some ⟨[sDeal (rhV h vs tg k es).ok (rhV h vs tg k es).version a f], [], none⟩) (Q := fun a f => fix Tb md 110 [sHello (row fI h.versions) (row fExt h.exts) f0 f1, R (row fI vs) f2, R (row fI tg) f3, I k, R (row fEdit es) f4] = some ⟨[sDeal (rhV h vs tg k es).ok (rhV h vs tg k es).version a f], [], none⟩) rhV_tags (ok138f h vs tg k es q hv ht he q0 q1 q2 q3 q4) (ok110f h vs tg k es q hv ht he q0 q1 q2 q3 q4)
theorem ok84f (h : Hello) (vs tg : List Int) (k : Int) (q : hB h 1048576 1048576) (hv : vs.length ≤ 1073741824) (ht : tg.length ≤ 1073741824) {f0 f1 f2 f3 : Fl} (q0 : inFl f0 = true) (q1 : inFl f1 = true) (q2 : inFl f2 = true) (q3 : inFl f3 = true) :
  fix Tb md 84 [sHello (row fI h.versions) (row fExt h.exts) f0 f1, R (row fI vs) f2, R (row fI tg) f3, I k] = some ⟨[sDeal (rhV h vs tg k []).ok (rhV h vs tg k []).version (row fI (rhV h vs tg k []).tags) (tF (rhOk h vs tg k []))], [], none⟩ := by
 have k1 := ok138f h vs tg k [] q hv ht (by simp) (f0 := .sp 0 0) (f1 := .sp 0 1) (f2 := .sp 1 0) (f3 := .sp 2 0) (f4 := .nl) rfl rfl rfl rfl rfl
 obtain ⟨x, hx⟩ := nm (rhV h vs tg k [])
 obtain ⟨b, hb⟩ := nm (rhOk h vs tg k [])
 rw [← hx, ← hb, show row fEdit ([] : List Edit) = [] from rfl] at k1
 rw [← hx, ← hb]
 clear hx hb
 obtain ⟨ev, hev⟩ := nm (row fI vs)
 obtain ⟨et, het⟩ := nm (row fI tg)
 obtain ⟨dv, hdv⟩ := nm (row fI h.versions)
 obtain ⟨dx, hdx⟩ := nm (row fExt h.exts)
 obtain ⟨ex, hex⟩ := nm (row fI x.tags)
 rw [← hev, ← het, ← hdv, ← hdx, ← hex] at k1
 rw [← hev, ← het, ← hdv, ← hdx, ← hex]
 cases b
 all_goals
  simp only [tF] at k1 ⊢
  generalize hr : (⟨_, [], none⟩ : Ret) = r
  refine fix_fn2 (fn := ir84) tb_84 rfl rfl (by decide) rfl ?_; intro Q hQ; simp only [shutArgs, shutS, List.map_cons, List.map_nil, ir84, shut_in q0, shut_in q1, shut_in q2, shut_in q3, List.head?_nil, reduceCtorEq, if_false, sExt, sHello, sAnswer, sEdit, sDeal, sBox, sDialed, sKnown]
  intro add sub mul arith eq ne lt le gt ge neg conv mn mx not beq len at' ln bd cut app allS isNil mks set o hP F ho
  rw [← ho] at k1
  cbv
  rw [k1]; cbv
  rw [hQ]; cbv
  exact congrArg some hr
theorem ok86f (h : Hello) (vs tg : List Int) (k : Int) (q : hB h 1048576 1048576) (hv : vs.length ≤ 1073741824) (ht : tg.length ≤ 1073741824) {f0 f1 f2 f3 : Fl} (q0 : inFl f0 = true) (q1 : inFl f1 = true) (q2 : inFl f2 = true) (q3 : inFl f3 = true) :
  fix Tb md 86 [sHello (row fI h.versions) (row fExt h.exts) f0 f1, R (row fI vs) f2, R (row fI tg) f3, I k] = some ⟨[sDeal (rhV h vs tg k []).ok (rhV h vs tg k []).version (row fI (rhV h vs tg k []).tags) (tF (rhOk h vs tg k []))], [], none⟩ := by
 have k1 := ok110f h vs tg k [] q hv ht (by simp) (f0 := .sp 0 0) (f1 := .sp 0 1) (f2 := .sp 1 0) (f3 := .sp 2 0) (f4 := .nl) rfl rfl rfl rfl rfl
 obtain ⟨x, hx⟩ := nm (rhV h vs tg k [])
 obtain ⟨b, hb⟩ := nm (rhOk h vs tg k [])
 rw [← hx, ← hb, show row fEdit ([] : List Edit) = [] from rfl] at k1
 rw [← hx, ← hb]
 clear hx hb
 obtain ⟨ev, hev⟩ := nm (row fI vs)
 obtain ⟨et, het⟩ := nm (row fI tg)
 obtain ⟨dv, hdv⟩ := nm (row fI h.versions)
 obtain ⟨dx, hdx⟩ := nm (row fExt h.exts)
 obtain ⟨ex, hex⟩ := nm (row fI x.tags)
 rw [← hev, ← het, ← hdv, ← hdx, ← hex] at k1
 rw [← hev, ← het, ← hdv, ← hdx, ← hex]
 cases b
 all_goals
  simp only [tF] at k1 ⊢
  generalize hr : (⟨_, [], none⟩ : Ret) = r
  refine fix_fn2 (fn := ir86) tb_86 rfl rfl (by decide) rfl ?_; intro Q hQ; simp only [shutArgs, shutS, List.map_cons, List.map_nil, ir86, shut_in q0, shut_in q1, shut_in q2, shut_in q3, List.head?_nil, reduceCtorEq, if_false, sExt, sHello, sAnswer, sEdit, sDeal, sBox, sDialed, sKnown]
  intro add sub mul arith eq ne lt le gt ge neg conv mn mx not beq len at' ln bd cut app allS isNil mks set o hP F ho
  rw [← ho] at k1
  cbv
  rw [k1]; cbv
  rw [hQ]; cbv
  exact congrArg some hr
theorem joint9 (h : Hello) (vs tg : List Int) (k : Int) (q : hB h 1048576 1048576) (hv : vs.length ≤ 1073741824) (ht : tg.length ≤ 1073741824) {f0 f1 f2 f3 : Fl} (q0 : inFl f0 = true) (q1 : inFl f1 = true) (q2 : inFl f2 = true) (q3 : inFl f3 = true) :
  ((fix Tb md 84 [sHello (row fI h.versions) (row fExt h.exts) f0 f1, R (row fI vs) f2, R (row fI tg) f3, I k] = some ⟨[sDeal (rhV h vs tg k []).ok (rhV h vs tg k []).version (row fI (rhV h vs tg k []).tags) (.ow false)], [], none⟩) ∧ (fix Tb md 86 [sHello (row fI h.versions) (row fExt h.exts) f0 f1, R (row fI vs) f2, R (row fI tg) f3, I k] = some ⟨[sDeal (rhV h vs tg k []).ok (rhV h vs tg k []).version (row fI (rhV h vs tg k []).tags) (.ow false)], [], none⟩)) ∨ (((rhV h vs tg k []).tags = [] ∧ fix Tb md 84 [sHello (row fI h.versions) (row fExt h.exts) f0 f1, R (row fI vs) f2, R (row fI tg) f3, I k] = some ⟨[sDeal (rhV h vs tg k []).ok (rhV h vs tg k []).version [] .nl], [], none⟩) ∧ ((rhV h vs tg k []).tags = [] ∧ fix Tb md 86 [sHello (row fI h.versions) (row fExt h.exts) f0 f1, R (row fI vs) f2, R (row fI tg) f3, I k] = some ⟨[sDeal (rhV h vs tg k []).ok (rhV h vs tg k []).version [] .nl], [], none⟩)) :=
 joinF (P := fun a f => fix Tb md 84 [sHello (row fI h.versions) (row fExt h.exts) f0 f1, R (row fI vs) f2, R (row fI tg) f3, I k] = some ⟨[sDeal (rhV h vs tg k []).ok (rhV h vs tg k []).version a f], [], none⟩) (Q := fun a f => fix Tb md 86 [sHello (row fI h.versions) (row fExt h.exts) f0 f1, R (row fI vs) f2, R (row fI tg) f3, I k] = some ⟨[sDeal (rhV h vs tg k []).ok (rhV h vs tg k []).version a f], [], none⟩) rhV_tags (ok84f h vs tg k q hv ht q0 q1 q2 q3) (ok86f h vs tg k q hv ht q0 q1 q2 q3)
theorem ok125 (l : List Int) (k : Int) (hk : Lim k l.length) (hl : l.length ≤ 1099511627776) {f0 : Fl} (h0 : inFl f0 = true) : fix Tb md 125 [R (row fI (mI l k)) f0, I k] = some ⟨[I (k + (l.length : Int))], [], none⟩ := by
 obtain ⟨t, ht⟩ := nm (k + (l.length : Int))
 have hT : AtK t k l.length := ht
 rw [← ht]
 clear ht
 refine fix_fn (fn := ir125) tb_125 rfl rfl (by decide) rfl ?_; simp only [shutArgs, shutS, List.map_cons, List.map_nil, ir125, shut_in h0, List.head?_nil, reduceCtorEq, if_false, sExt, sHello, sAnswer, sEdit, sDeal, sBox, sDialed, sKnown]
 generalize hr : (⟨_, [], none⟩ : Ret) = r
 obtain ⟨ea, hea⟩ := nm (row fI (mI l k))
 rw [← hea]
 intro add sub mul arith eq ne lt le gt ge neg conv mn mx not beq len at' ln bd cut app allS isNil mks set o hP F ho
 have la := F.len_at hea
 cbv
 refine loop_ind hP (σ := List Int × List Int × Int × Int) (fun s => [(0, R ea .sh), (1, I s.2.2.1), (4, I 0), (5, I s.2.2.2)])
  (fun s => At s.2.2.2 s.2.1.length ∧ AtK s.2.2.1 k s.2.1.length ∧ l = s.2.1 ++ s.1) (fun s => s.1.length) (l, [], k, 0) rfl ⟨rfl, AtK.zero, rfl⟩ ?_
 rintro ⟨suf, pre, x, i⟩ ⟨hi, hx, hl'⟩ ih
 simp only at hi hx hl' ih
 cbv
 cases suf with
 | nil =>
  rw [F.lt_f hi la (by rw [mI_len, hl']; simp)]; cbv
  rw [← hr, show x = t by rw [hx.same, hT.same, hl']; simp]
 | cons y suf =>
  have hl3 : pre.length + 1 ≤ l.length := by rw [hl']; simp
  have a1 : add .i64 x 1 = x + 1 := by rw [F.add, hx.inc hk (by omega)]
  have hm : mI l k = mI pre k ++ x :: mI suf (x + 1) := by rw [hl', mI_app pre _ k x hx]; rfl
  rw [F.lt_t hi la (by rw [mI_len, hl']; simp)]; cbv
  obtain ⟨ix, hix⟩ := nm (pre.length * 1)
  rw [show at' 1 ea i = some (ix, [.int .i64 x]) by rw [hix]; have h := F.get (f := fI) (k := 1) (show At i (mI pre k).length by rw [mI_len]; exact hi) hea hm (fun _ => rfl) (by decide); rw [mI_len] at h; exact h]; cbv
  rw [F.ne_f rfl]; cbv
  rw [a1]
  refine ih (suf, pre ++ [y], x + 1, add .i64 i 1) ⟨at_len (F.inc hi (by omega)) (by simp), hx.one.eq (by simp), by simp [hl']⟩ (by simp)
theorem ok88 (x : Deal) (k : Int) (hk : Lim k (nDeal x)) (w : x.Mid) {f0 : Fl} (q0 : inFl f0 = true) : fix Tb md 88 [sDeal x.ok x.version (row fI (wDeal x k).tags) f0, I k] = some ⟨[I (k + (nDeal x : Int))], [], none⟩ := by
 have hn : nDeal x = x.tags.length := rfl
 unfold Deal.Mid at w
 have a0 : AtK k k 0 := AtK.zero
 obtain ⟨z1, hz1⟩ := nm (k + (x.tags.length : Int))
 have a1 : AtK z1 k (0 + x.tags.length) := hz1 ▸ a0.plus
 have m1 : Lim k (x.tags.length) := a0.lim hk (by omega)
 have n1 : 0 ≤ z1 := by have := m1.nn; omega
 rw [show k + (nDeal x : Int) = z1 by rw [a1.same, hn]; simp]
 have x0 : (wDeal x k).tags = mI x.tags k := by simp only [wDeal, hz1]
 rw [x0]
 refine fix_fn (fn := ir88) tb_88 rfl rfl (by decide) rfl ?_; simp only [shutArgs, shutS, List.map_cons, List.map_nil, ir88, shut_in q0, List.head?_nil, reduceCtorEq, if_false, sExt, sHello, sAnswer, sEdit, sDeal, sBox, sDialed, sKnown]
 generalize hr : (⟨_, [], none⟩ : Ret) = r
 obtain ⟨g0, hg0⟩ := nm (row fI (mI x.tags k))
 rw [← hg0]
 intro add sub mul arith eq ne lt le gt ge neg conv mn mx not beq len at' ln bd cut app allS isNil mks set o hP F ho
 have c1 : o 125 [R g0 (.sp 0 0), I k] = some ⟨[I z1], [], none⟩ := by rw [ho, hz1, hg0]; exact ok125 _ _ m1 (Nat.le_trans (w) (by decide)) rfl
 cbv
 rw [c1]; cbv
 rw [show lt z1 0 = false by rw [F.lt]; simp; omega]; cbv
 exact congrArg some hr
def mEdit (x : Edit) (k : Int) : Edit := ⟨k, (k + 1)⟩
def cEdit (x : Edit) : Nat := 1 + 1
def mEditS : List Edit → Int → List Edit
 | [], _ => []
 | x :: l, k => mEdit x k :: mEditS l (k + (cEdit x : Int))
def cEditS (l : List Edit) : Nat := (l.map cEdit).sum
theorem mEditS_len : ∀ (l : List Edit) (k : Int), (mEditS l k).length = l.length
 | [], _ => rfl
 | _ :: l, k => by simp [mEditS, mEditS_len l _]
theorem mEditS_app : ∀ (a b : List Edit) (k x : Int), AtK x k (cEditS a) → mEditS (a ++ b) k = mEditS a k ++ mEditS b x
 | [], b, k, x, h => by simp [AtK, cEditS] at h; subst h; simp [mEditS]
 | y :: a, b, k, x, h => by
  simp only [List.cons_append, mEditS]
  rw [mEditS_app a b (k + (cEdit y : Int)) x (by unfold AtK at *; simp [cEditS] at h ⊢; omega)]
theorem cEdit_mid {x : Edit} (w : x.Mid) : cEdit x ≤ 2147483650 := by unfold Edit.Mid at w; unfold cEdit; omega
theorem cEdit_small {x : Edit} (w : x.Small) : cEdit x ≤ 2097154 := by unfold Edit.Small at w; unfold cEdit; omega
theorem cEditS_mid {l : List Edit} (w : l.length ≤ 1073741824 ∧ ∀ y ∈ l, y.Mid) : cEditS l ≤ 2305843011361177600 :=
 Nat.le_trans (sum_le fun y hy => cEdit_mid (w.2 y hy)) (Nat.mul_le_mul_right _ w.1)
theorem cEditS_small {l : List Edit} (w : l.length ≤ 1048576 ∧ ∀ y ∈ l, y.Small) : cEditS l ≤ 2199025352704 :=
 Nat.le_trans (sum_le fun y hy => cEdit_small (w.2 y hy)) (Nat.mul_le_mul_right _ w.1)
set_option maxHeartbeats 2000000 in
theorem ok1141 (l : List Edit) (k : Int) (hk : Lim k (cEditS l)) (hl : l.length ≤ 1099511627776) : fix Tb md 1141 [R (row fEdit l) (.mp 0), I k] = some ⟨[I (k + (cEditS l : Int))], [.row () (row fEdit (mEditS l k))], none⟩ := by
 obtain ⟨t, ht⟩ := nm (k + (cEditS l : Int))
 obtain ⟨et, het⟩ := nm (row fEdit (mEditS l k))
 have hT : AtK t k (cEditS l) := ht
 rw [← ht, ← het]
 clear ht
 refine fix_fn (fn := ir1141) tb_1141 rfl rfl (by decide) rfl ?_
 generalize hr : (⟨_, [_], none⟩ : Ret) = r
 obtain ⟨ea, hea⟩ := nm (row fEdit l)
 rw [← hea]
 intro add sub mul arith eq ne lt le gt ge neg conv mn mx not beq len at' ln bd cut app allS isNil mks set o hP F ho
 cbv
 refine loop_ind hP (σ := List Edit × List Edit × List (List V) × Int × Int) (fun s => [(0, R s.2.2.1 (.mp 0)), (1, I s.2.2.2.1), (4, I 0), (5, I s.2.2.2.2)])
  (fun s => At s.2.2.2.2 s.2.1.length ∧ AtK s.2.2.2.1 k (cEditS s.2.1) ∧ l = s.2.1 ++ s.1 ∧ s.2.2.1 = row fEdit (mEditS s.2.1 k ++ s.1)) (fun s => s.1.length) (l, [], ea, k, 0) rfl ⟨rfl, AtK.zero, rfl, by simpa [mEditS] using hea⟩ ?_
 rintro ⟨suf, pre, eo, z0, i⟩ ⟨hi, a0, hl', heo⟩ ih
 simp only at hi a0 hl' heo ih
 have lo := F.len_at heo
 cbv
 cases suf with
 | nil =>
  rw [F.lt_f hi lo (by simp [mEditS_len])]; cbv
  rw [← hr, show z0 = t by rw [a0.same, hT.same, hl']; simp, heo, het, hl']; simp
 | cons x suf =>
  have hl3 : pre.length + 1 ≤ l.length := by rw [hl']; simp
  have hc : cEditS l = cEditS pre + (cEdit x + cEditS suf) := by rw [hl']; simp [cEditS]
  have hcx : cEdit x = 1 + 1 := rfl
  obtain ⟨z1, hz1⟩ := nm (z0 + 1)
  have a1 : AtK z1 k (cEditS pre + 1) := hz1 ▸ a0.one
  have s1 : add .i64 z0 1 = z1 := by rw [F.add, a0.inc hk (by omega), hz1]
  obtain ⟨z2, hz2⟩ := nm (z1 + 1)
  have a2 : AtK z2 k (cEditS pre + 1 + 1) := hz2 ▸ a1.one
  have s2 : add .i64 z1 1 = z2 := by rw [F.add, a1.inc hk (by omega), hz2]
  have hmx : mEdit x z0 = (⟨z0, z1⟩ : Edit) := by simp only [mEdit, hz1, hz2]
  have hzn : z0 + (cEdit x : Int) = z2 := by rw [hcx, a2.same, a0.same]; omega
  rw [F.lt_t hi lo (by simp [mEditS_len])]; cbv
  obtain ⟨ix, hix⟩ := nm (pre.length * 2)
  obtain ⟨eo1, heo1⟩ := nm (row fEdit (mEditS pre k ++ (⟨z0, x.n⟩ : Edit) :: suf))
  obtain ⟨eo2, heo2⟩ := nm (row fEdit (mEditS pre k ++ (⟨z0, z1⟩ : Edit) :: suf))
  rw [show at' 2 eo i = some (ix, [.int .i64 x.kind, .int .i64 x.n]) by simp only [hix]; have h := F.get (f := fEdit) (k := 2) (show At i (mEditS pre k).length by rw [mEditS_len]; exact hi) heo rfl (fun _ => rfl) (by decide); rw [mEditS_len] at h; exact h]; cbv
  have q0 : setFlat eo (ix + 0) [.int .i64 z0] = some eo1 := by simp only [heo, heo1]; exact set_fld (k := 2) (fun _ => rfl) (by decide) (by simp [fEdit]) (by rw [hix, mEditS_len])
  first | rw [show set eo (ix + 0) [.int .i64 z0] = some eo1 by rw [F.set]; exact q0] | rw [show set eo (Nat.add ix 0) [.int .i64 z0] = some eo1 by rw [F.set]; exact q0] | rw [show set eo ix [.int .i64 z0] = some eo1 by rw [F.set]; exact q0] | trace_state
  cbv
  rw [s1]
  rw [show at' 2 eo1 i = some (ix, [.int .i64 z0, .int .i64 x.n]) by simp only [hix]; have h := F.get (f := fEdit) (k := 2) (show At i (mEditS pre k).length by rw [mEditS_len]; exact hi) heo1 rfl (fun _ => rfl) (by decide); rw [mEditS_len] at h; exact h]; cbv
  have q1 : setFlat eo1 (ix + 1) [.int .i64 z1] = some eo2 := by simp only [heo1, heo2]; exact set_fld (k := 2) (fun _ => rfl) (by decide) (by simp [fEdit]) (by rw [hix, mEditS_len])
  first | rw [show set eo1 (ix + 1) [.int .i64 z1] = some eo2 by rw [F.set]; exact q1] | rw [show set eo1 (Nat.add ix 1) [.int .i64 z1] = some eo2 by rw [F.set]; exact q1] | rw [show set eo1 ix [.int .i64 z1] = some eo2 by rw [F.set]; exact q1] | trace_state
  cbv
  rw [s2]
  refine ih (suf, pre ++ [x], eo2, z2, add .i64 i 1) ⟨at_len (F.inc hi (by omega)) (by simp), a2.eq (by simp [cEditS, cEdit] <;> omega), by simp [hl'], ?_⟩ (by simp)
  simp only
  rw [heo2, mEditS_app pre [x] k z0 a0, ← hmx]; simp [mEditS]
theorem ok1141n (k : Int) : fix Tb md 1141 [R [] .nl, I k] = some ⟨[I k], [], none⟩ := by
 refine fix_fn (fn := ir1141) tb_1141 rfl rfl (by decide) rfl ?_
 generalize hr : (⟨_, [], none⟩ : Ret) = r
 intro add sub mul arith eq ne lt le gt ge neg conv mn mx not beq len at' ln bd cut app allS isNil mks set o hP F ho
 have la : At (len []) 0 := F.len_at (f := fEdit) (l := []) rfl
 have h0 : lt 0 (len []) = false := F.lt_f at0 la (Nat.le_refl 0)
 cbv
 refine loop_ind hP (σ := Unit) (fun _ => [(0, R [] .nl), (1, I k), (4, I 0), (5, I 0)]) (fun _ => True) (fun _ => 0) () rfl trivial ?_
 rintro ⟨⟩ _ ih
 clear ih
 cbv
 rw [h0]; cbv
 exact congrArg some hr
theorem ok137 (l : List Edit) (left : Int) (w : l.length ≤ 9223372036854775807 ∧ ∀ y ∈ l, y.Fits) (h1 : 0 ≤ left) (h2 : left ≤ 1048576) {f0 : Fl} (q0 : inFl f0 = true) :
  fix Tb md 137 [R (row fEdit l) f0, I left] = some ⟨[I (szL szEdit l left)], [], none⟩ := by
 rw [show szL szEdit l left = sz1 l.length left from sz_len l h2]
 have w1 := w.1
 by_cases hl : left - l.length < 0
 ·rw [show sz1 l.length left = -1 from by unfold sz1; rw [if_pos hl]]
  refine fix_fn (fn := ir137) tb_137 rfl rfl (by decide) rfl ?_; simp only [shutArgs, shutS, List.map_cons, List.map_nil, ir137, shut_in q0, List.head?_nil, reduceCtorEq, if_false, sExt, sHello, sAnswer, sEdit, sDeal, sBox, sDialed, sKnown]
  generalize hr : (⟨_, [], none⟩ : Ret) = r
  obtain ⟨ea, hea⟩ := nm (row fEdit l)
  rw [← hea]
  intro add sub mul arith eq ne lt le gt ge neg conv mn mx not beq len at' ln bd cut app allS isNil mks set o hP F ho
  have le := F.len_at hea
  unfold At at le
  have hs : lt (sub .i64 left (len ea)) 0 = true := by rw [F.lt, F.sub, le, wrap64 (by omega) (by omega)]; simp; omega
  cbv
  rw [hs]
  cbv
  exact congrArg some hr
 ·rw [show sz1 l.length left = left - l.length by unfold sz1; rw [if_neg hl]]
  refine fix_fn (fn := ir137) tb_137 rfl rfl (by decide) rfl ?_; simp only [shutArgs, shutS, List.map_cons, List.map_nil, ir137, shut_in q0, List.head?_nil, reduceCtorEq, if_false, sExt, sHello, sAnswer, sEdit, sDeal, sBox, sDialed, sKnown]
  obtain ⟨v, hv⟩ := nm (left - l.length)
  rw [← hv]
  generalize hr : (⟨_, [], none⟩ : Ret) = r
  obtain ⟨ea, hea⟩ := nm (row fEdit l)
  rw [← hea]
  intro add sub mul arith eq ne lt le gt ge neg conv mn mx not beq len at' ln bd cut app allS isNil mks set o hP F ho
  have le := F.len_at hea
  unfold At at le
  have e1 : sub .i64 left (len ea) = v := by rw [F.sub, le, wrap64 (by omega) (by omega), hv]
  have hs : lt v 0 = false := by rw [F.lt, hv]; simp; omega
  cbv
  rw [e1, hs]
  cbv
  exact congrArg some hr
theorem ok155 (x : Edit) (w : x.Mid) :
  fix Tb md 155 [sEdit x.kind x.n ] = some ⟨[sEdit x.kind x.n ], [], none⟩ := by
 refine fix_fn (fn := ir155) tb_155 rfl rfl (by decide) rfl ?_; simp only [shutArgs, shutS, List.map_cons, List.map_nil, ir155, List.head?_nil, reduceCtorEq, if_false, sExt, sHello, sAnswer, sEdit, sDeal, sBox, sDialed, sKnown]
 generalize hr : (⟨_, [], none⟩ : Ret) = r
 unfold Edit.Mid at w
 intro add sub mul arith eq ne lt le gt ge neg conv mn mx not beq len at' ln bd cut app allS isNil mks set o hP F ho
 cbv
 exact congrArg some hr
theorem ok139 (l : List (Edit)) (w : l.length ≤ 1073741824 ∧ ∀ y ∈ l, y.Mid) {f0 : Fl} (q0 : inFl f0 = true) :
  fix Tb md 139 [R (row fEdit l) f0] = some ⟨[R (row fEdit l) (.ow false)], [], none⟩ := by
 have w1 := w.1
 refine fix_fn (fn := ir139) tb_139 rfl rfl (by decide) rfl ?_; simp only [shutArgs, shutS, List.map_cons, List.map_nil, ir139, shut_in q0, List.head?_nil, reduceCtorEq, if_false, sExt, sHello, sAnswer, sEdit, sDeal, sBox, sDialed, sKnown]
 generalize hr : (⟨_, [], none⟩ : Ret) = r
 obtain ⟨ea, hea⟩ := nm (row fEdit l)
 rw [← hea] at hr ⊢
 intro add sub mul arith eq ne lt le gt ge neg conv mn mx not beq len at' ln bd cut app allS isNil mks set o hP F ho
 have la := F.len_at hea
 cbv
 obtain ⟨e0, he0⟩ := nm (row fEdit (List.replicate l.length (⟨0, 0⟩ : Edit)))
 rw [show mks [.int .i64 0, .int .i64 0] (len ea) (len ea) = some e0 by rw [F.mks, show len ea = _ from la, he0]; exact row_mk (f := fEdit) (a := (⟨0, 0⟩ : Edit)) rfl (by simp [fEdit]) (show l.length ≤ 1099511627776 by omega)]; cbv
 refine loop_ind hP (σ := List (Edit) × List (Edit) × List (List V) × Int) (fun s => [(0, R ea .sh), (2, R [] .nl), (3, R s.2.2.1 (.ow false)), (4, I s.2.2.2)])
  (fun s => At s.2.2.2 s.2.1.length ∧ l = s.2.1 ++ s.1 ∧ s.2.2.1 = row fEdit (s.2.1 ++ List.replicate s.1.length (⟨0, 0⟩ : Edit))) (fun s => s.1.length) (l, [], e0, 0) rfl ⟨rfl, rfl, by simpa using he0⟩ ?_
 rintro ⟨suf, pre, eo, i⟩ ⟨hi, hl', heo⟩ ih
 simp only at hi hl' heo ih
 cbv
 cases suf with
 | nil =>
  rw [F.lt_f hi la (by simp [hl'])]; cbv
  rw [← hr, heo, hea, hl']; simp
 | cons x suf =>
  rw [F.lt_t hi la (by simp [hl'])]; cbv
  obtain ⟨ix, hix⟩ := nm (pre.length * 2)
  rw [show at' 2 ea i = some (ix, [.int .i64 x.kind, .int .i64 x.n]) by rw [hix]; exact F.get hi hea hl' (fun _ => rfl) (by decide)]; cbv
  have c1 : o 155 [sEdit x.kind x.n ] = some ⟨[sEdit x.kind x.n ], [], none⟩ := by rw [ho]; exact ok155 x (w.2 x (by rw [hl']; simp))
  rw [c1]; cbv
  rw [show at' 2 eo i = some (ix, [.int .i64 0, .int .i64 0]) by rw [hix]; exact F.get hi heo rfl (fun _ => rfl) (by decide)]; cbv
  obtain ⟨eo', heo'⟩ := nm (row fEdit (pre ++ x :: List.replicate suf.length (⟨0, 0⟩ : Edit)))
  rw [show set eo ix [.int .i64 x.kind, .int .i64 x.n] = some eo' by rw [F.set, heo, hix, heo']; exact set_all (fun _ => rfl) rfl]; cbv
  refine ih (suf, pre ++ [x], eo', add .i64 i 1) ⟨at_len (F.inc hi (by simp [hl'] at w1; omega)) (by simp), by simp [hl'], by simp [heo']⟩ (by simp)
theorem ok281 (x : Edit) (w : x.Mid) :
  fix Tb md 281 [sEdit x.kind x.n , sEdit x.kind x.n ] = some ⟨[B true], [], none⟩ := by
 refine fix_fn (fn := ir281) tb_281 rfl rfl (by decide) rfl ?_; simp only [shutArgs, shutS, List.map_cons, List.map_nil, ir281, List.head?_nil, reduceCtorEq, if_false, sExt, sHello, sAnswer, sEdit, sDeal, sBox, sDialed, sKnown]
 generalize hr : (⟨_, [], none⟩ : Ret) = r
 unfold Edit.Mid at w
 intro add sub mul arith eq ne lt le gt ge neg conv mn mx not beq len at' ln bd cut app allS isNil mks set o hP F ho
 cbv
 rw [F.ne_f rfl]; cbv
 rw [F.ne_f rfl]; cbv
 exact congrArg some hr
theorem ok140 (l : List (Edit)) (w : l.length ≤ 1073741824 ∧ ∀ y ∈ l, y.Mid) {f0 f1 : Fl} (q0 : inFl f0 = true) (q1 : inFl f1 = true) :
  fix Tb md 140 [R (row fEdit l) f0, R (row fEdit l) f1] = some ⟨[B true], [], none⟩ := by
 have w1 := w.1
 refine fix_fn (fn := ir140) tb_140 rfl rfl (by decide) rfl ?_; simp only [shutArgs, shutS, List.map_cons, List.map_nil, ir140, shut_in q0, shut_in q1, List.head?_nil, reduceCtorEq, if_false, sExt, sHello, sAnswer, sEdit, sDeal, sBox, sDialed, sKnown]
 generalize hr : (⟨_, [], none⟩ : Ret) = r
 obtain ⟨ea, hea⟩ := nm (row fEdit l)
 rw [← hea]
 intro add sub mul arith eq ne lt le gt ge neg conv mn mx not beq len at' ln bd cut app allS isNil mks set o hP F ho
 have la := F.len_at hea
 cbv
 rw [F.ne_f rfl]; cbv
 refine loop_ind hP (σ := List (Edit) × List (Edit) × Int) (fun s => [(0, R ea .sh), (1, R ea .sh), (4, B false), (5, I s.2.2)])
  (fun s => At s.2.2 s.2.1.length ∧ l = s.2.1 ++ s.1) (fun s => s.1.length) (l, [], 0) rfl ⟨rfl, rfl⟩ ?_
 rintro ⟨suf, pre, i⟩ ⟨hi, hl'⟩ ih
 simp only at hi hl' ih
 cbv
 cases suf with
 | nil =>
  rw [F.lt_f hi la (by simp [hl'])]; cbv
  exact congrArg some hr
 | cons x suf =>
  rw [F.lt_t hi la (by simp [hl'])]; cbv
  obtain ⟨ix, hix⟩ := nm (pre.length * 2)
  have a1 : at' 2 ea i = some (ix, [.int .i64 x.kind, .int .i64 x.n]) := by rw [hix]; exact F.get hi hea hl' (fun _ => rfl) (by decide)
  rw [a1]; cbv
  try (rw [a1]; cbv)
  have c1 : o 281 [sEdit x.kind x.n , sEdit x.kind x.n ] = some ⟨[B true], [], none⟩ := by rw [ho]; exact ok281 x (w.2 x (by rw [hl']; simp))
  rw [c1]; cbv
  rw [show not true = false by rw [F.not]; rfl]; cbv
  refine ih (suf, pre ++ [x], add .i64 i 1) ⟨at_len (F.inc hi (by simp [hl'] at w1; omega)) (by simp), by simp [hl']⟩ (by simp)
end Go.Vm
