/- What the functions answer. -/
import Derived.Test.YthfbmkhjanmeaaaGCTab
import Derived.Test.YthfbmkhjanmeaaaGCFA
import Derived.Test.YthfbmkhjanmeaaaGCFB
import Derived.Test.YthfbmkhjanmeaaaGCFC
import Derived.Test.YthfbmkhjanmeaaaGCFD
import Derived.Test.YthfbmkhjanmeaaaGCFE
set_option maxHeartbeats 4000000
set_option maxRecDepth 10000
set_option linter.unusedVariables false
set_option linter.unusedSimpArgs false
namespace Go.Vm
theorem ok305 (n : Int) (b : List Int) (hb : b.length ≤ 1099511627776) : fix Tb md 305 [I n, ⟨.val, [⟨.ptr () [.row () (row fI b)], .sh⟩]⟩] = some ⟨[B (!hasI b n)], [], none⟩ := by
 obtain ⟨v, hv⟩ := nm (hasI b n)
 rw [← hv]
 generalize hr : (⟨_, [], none⟩ : Ret) = r
 obtain ⟨eb, heb⟩ := nm (row fI b)
 rw [← heb]
 refine fix_fn2 (fn := ir305) tb_305 rfl rfl (by decide) rfl ?_; intro Q hQ; simp only [shutArgs, shutS, List.map_cons, List.map_nil, ir305, List.head?_nil, reduceCtorEq, if_false, sExt, sHello, sAnswer, sEdit, sDeal, sBox, sDialed, sKnown]
 intro add sub mul arith eq ne lt le gt ge neg conv mn mx not beq len at' ln bd cut app allS isNil mks set o hP F ho
 have c1 : o 302 [R eb (.sp 0 0), I n] = some ⟨[B v], [], none⟩ := by rw [ho, hv, heb]; exact ok302 _ _ hb rfl
 cbv
 rw [c1]; cbv
 rw [hQ]; cbv
 rw [← hr, F.not]
theorem ok165 (h : Hello) (lv tg : List Int) (mh : h.Mid) (a1 : lv.length ≤ 1073741824) (a2 : tg.length ≤ 1073741824) {f0 f1 f2 f3 : Fl} (q0 : inFl f0 = true) (q1 : inFl f1 = true) (q2 : inFl f2 = true) (q3 : inFl f3 = true) :
  fix Tb md 165 [sHello (row fI h.versions) (row fExt h.exts) f0 f1, R (row fI lv) f2, R (row fI tg) f3] = some ⟨[sHello (row fI (partV h lv tg).versions) (row fExt (partV h lv tg).exts) (.ow false) (.ow false), B (partOk h lv)], [], none⟩ ∨
  ((partV h lv tg).versions = [] ∧ (partV h lv tg).exts = [] ∧ fix Tb md 165 [sHello (row fI h.versions) (row fExt h.exts) f0 f1, R (row fI lv) f2, R (row fI tg) f3] = some ⟨[sHello [] [] .nl .nl, B (partOk h lv)], [], none⟩) := by
 have mh' := mh
 unfold Hello.Mid at mh'
 have hvl := mh'.1
 have hxl := mh'.2.1
 have wh : ∀ y ∈ h.exts, y.body.length ≤ 1099511627776 := fun y hy => Nat.le_trans (show y.body.length ≤ 1073741824 from mh'.2.2 y hy) (by decide)
 obtain ⟨W, hW⟩ := nm (sel (notIn lv) idI h.versions)
 obtain ⟨Z, hZ⟩ := nm (sel (notTagIn tg) idE h.exts)
 have hWl : W.length ≤ 1073741824 := by rw [hW]; exact Nat.le_trans sel_len hvl
 obtain ⟨u, hu⟩ := nm (isHel h)
 obtain ⟨z, hz⟩ := nm (decide (W.length = 0))
 suffices hmain : ∀ r, (u = true → z = false → (⟨[sHello (row fI W) (row fExt Z) (.ow false) (.ow false), B true], [], none⟩ : Ret) = r) → (u = false ∨ z = true → (⟨[sHello [] [] .nl .nl, B false], [], none⟩ : Ret) = r) → fix Tb md 165 [sHello (row fI h.versions) (row fExt h.exts) f0 f1, R (row fI lv) f2, R (row fI tg) f3] = some r by
  have ho : partOk h lv = (u && !z) := by rw [hu, hz, hW]; rfl
  cases hk : (u && !z) with
  | false =>
   rw [hk] at ho
   have hp : partV h lv tg = ⟨[], []⟩ := by rw [partV, ho]; rfl
   rw [hp, ho]
   refine .inr ⟨rfl, rfl, hmain _ (fun q1 q2 => ?_) (fun _ => rfl)⟩
   rw [q1, q2] at hk; exact Bool.noConfusion hk
  | true =>
   rw [hk] at ho
   have hp : partV h lv tg = ⟨W, Z⟩ := by rw [partV, ho, if_pos rfl, hW, hZ]
   rw [hp, ho]
   refine .inl (hmain _ (fun _ _ => rfl) (fun q => ?_))
   rcases q with q | q
   ·rw [q] at hk; exact Bool.noConfusion hk
   ·rw [q] at hk; simp at hk
 intro r rA rC
 obtain ⟨dv, hdv⟩ := nm (row fI h.versions)
 obtain ⟨dx, hdx⟩ := nm (row fExt h.exts)
 obtain ⟨el, hel⟩ := nm (row fI lv)
 obtain ⟨et, het⟩ := nm (row fI tg)
 rw [← hdv, ← hdx, ← hel, ← het]
 obtain ⟨ew, hew⟩ := nm (row fI W)
 obtain ⟨ez, hez⟩ := nm (row fExt Z)
 rw [← hew, ← hez] at rA
 refine fix_fn2 (fn := ir165) tb_165 rfl rfl (by decide) rfl ?_; intro Q hQ; simp only [shutArgs, shutS, List.map_cons, List.map_nil, ir165, shut_in q0, shut_in q1, shut_in q2, shut_in q3, List.head?_nil, reduceCtorEq, if_false, sExt, sHello, sAnswer, sEdit, sDeal, sBox, sDialed, sKnown]
 intro add sub mul arith eq ne lt le gt ge neg conv mn mx not beq len at' ln bd cut app allS isNil mks set o hP F ho
 have lw := F.len_at hew
 have c1 : o 287 [R dv (.sp 0 0), R el (.sp 1 0)] = some ⟨[R ew (.ow false)], [], none⟩ := by rw [ho, hew, hW, hdv, hel]; exact ok287 _ _ hvl a1 rfl rfl
 have c2 : o 113 [sHello dv dx (.sp 0 0) (.sp 0 1)] = some ⟨[B u], [], none⟩ := by rw [ho, hu, hdv, hdx]; exact ok113 _ (by omega) (by omega) wh rfl rfl
 have c3 : o 264 [R dx (.sp 0 0), ⟨.val, [⟨.fn 305 [.ptr () [.row () et]], .sh⟩]⟩] = some ⟨[R ez (.ow false)], [], none⟩ := by
  rw [ho, hez, hZ, hdx, het]
  exact ok264_1 305 rfl _ (fun n => !hasI tg n) h.exts hxl wh (fun x _ => ok305 x.tag tg (by omega)) rfl
 have g1 : eq (len ew) 0 = z := by rw [F.eq_n lw (k := 0) (m := 0) rfl, hz]
 cbv
 rw [c1]; cbv
 rw [c2]; cbv
 refine both (fun d1 => ?_) (fun d1 => ?_) <;> rw [d1] <;> cbv
 ·rw [hQ]; cbv
  exact congrArg some (rC (.inl (F.not_t d1)))
 rw [g1]; cbv
 refine both (fun d2 => ?_) (fun d2 => ?_) <;> rw [d2] <;> cbv
 ·rw [hQ]; cbv
  exact congrArg some (rC (.inr d2))
 rw [c3]; cbv
 rw [hQ]; cbv
 exact congrArg some (rA (F.not_f d1) d2)
theorem ok167 (path : List Box) (versions : List Int) (pl : path.length ≤ 1073741824) (pm : ∀ y ∈ path, y.Mid) (hv : versions.length ≤ 1073741824) {f0 f1 : Fl} (q0 : inFl f0 = true) (q1 : inFl f1 = true) : fix Tb md 167 [R (row fBox path) f0, R (row fI versions) f1] = some ⟨[B (iop path versions)], [], none⟩ := by
 obtain ⟨u, hu⟩ := nm (areVer versions)
 obtain ⟨w, hw⟩ := nm (ppOk path ⟨versions.take 1, []⟩)
 rw [show iop path versions = (u && w) by rw [hu, hw]; rfl]
 generalize hr : (⟨_, [], none⟩ : Ret) = r
 have rA : u = true → (⟨[B w], [], none⟩ : Ret) = r := fun h => by rw [← hr, h]; rfl
 have rC : u = false → (⟨[B false], [], none⟩ : Ret) = r := fun h => by rw [← hr, h]; rfl
 clear hr
 have hk := ok182 path ⟨versions.take 1, []⟩ pl pm ⟨by simp; omega, by simp, by simp⟩ (f0 := .sp 0 0) (f1 := .sp 1 0) (f2 := .nl) rfl rfl rfl
 rw [show row fExt (⟨versions.take 1, []⟩ : Hello).exts = [] from rfl, show (⟨versions.take 1, []⟩ : Hello).versions = versions.take 1 from rfl, ← hw] at hk
 obtain ⟨ep, hep⟩ := nm (row fBox path)
 obtain ⟨ev, hev⟩ := nm (row fI versions)
 obtain ⟨e1, he1⟩ := nm (row fI (versions.take 1))
 rw [← hep, ← he1] at hk
 rw [← hep, ← hev]
 obtain ⟨V1, hV1⟩ := nm (row fI (ppV path ⟨versions.take 1, []⟩).versions)
 obtain ⟨X1, hX1⟩ := nm (row fExt (ppV path ⟨versions.take 1, []⟩).exts)
 rw [← hV1, ← hX1] at hk
 refine fix_fn2 (fn := ir167) tb_167 rfl rfl (by decide) rfl ?_; intro Q hQ; simp only [shutArgs, shutS, List.map_cons, List.map_nil, ir167, shut_in q0, shut_in q1, List.head?_nil, reduceCtorEq, if_false, sExt, sHello, sAnswer, sEdit, sDeal, sBox, sDialed, sKnown]
 intro add sub mul arith eq ne lt le gt ge neg conv mn mx not beq len at' ln bd cut app allS isNil mks set o hP F ho
 have c1 : o 255 [R ev (.sp 0 0)] = some ⟨[B u], [], none⟩ := by rw [ho, hu, hev]; exact ok255 _ (by omega) rfl
 have c2 : o 77 [R e1 (.sp 0 0)] = some ⟨[sHello e1 [] (.ow false) .nl], [], none⟩ := by rw [ho, he1]; exact ok77 _ (by simp; omega) rfl
 obtain ⟨one, hone⟩ := nm (1)
 have p1 : u = true → bd (ln ev) 1 = some one := fun h => by
  rw [hu] at h
  unfold areVer at h
  simp only [Bool.and_eq_true, decide_eq_true_eq] at h
  rw [F.ln' hev, hone]; exact F.bd' (show At 1 1 from rfl) h.2
 have p2 : cut 1 ev one 0 = some e1 := by rw [F.cut' hev (fun _ => rfl), he1, hone]; rfl
 cbv
 rw [c1]; cbv
 refine both (fun d1 => ?_) (fun d1 => ?_) <;> rw [d1] <;> cbv
 ·rw [hQ]; cbv
  exact congrArg some (rC (F.not_t d1))
 have p1' := p1 (F.not_f d1)
 rw [p1']; cbv
 rw [p2]; cbv
 rw [c2]; cbv
 rcases hk with hk | ⟨n1, n2, hk⟩
 ·have c3 : o 182 [R ep (.sp 0 0), sHello e1 [] (.sp 1 0) .nl] = some ⟨[sHello V1 X1 (.ow false) (.ow false), B w], [], none⟩ := by rw [ho]; exact hk
  rw [c3]; cbv
  rw [hQ]; cbv
  exact congrArg some (rA (F.not_f d1))
 ·have c3 : o 182 [R ep (.sp 0 0), sHello e1 [] (.sp 1 0) .nl] = some ⟨[sHello [] [] .nl .nl, B w], [], none⟩ := by rw [ho]; exact hk
  rw [c3]; cbv
  rw [hQ]; cbv
  exact congrArg some (rA (F.not_f d1))
def deadE (path : List Box) (versions : List Int) (e : Ext) : Bool := !pw ⟨versions.take 1, [e]⟩ path
def ltags (path : List Box) (versions : List Int) (exts : List Ext) : List Int := if areEx exts && iop path versions then sel (deadE path versions) Ext.tag exts else []
theorem ltags_len {path : List Box} {versions : List Int} {exts : List Ext} : (ltags path versions exts).length ≤ exts.length := by
 unfold ltags; split
 ·exact sel_len
 ·simp
theorem ppGo_ver : ∀ (path : List Box) (h : Hello), (ppGo path h).2 = true → (ppGo path h).1.versions = h.versions
 | [], _, _ => rfl
 | b :: bs, h, hq => by
  unfold ppGo at hq ⊢
  split at hq
  ·rename_i hb
   rw [if_pos hb, ppGo_ver bs _ hq]
   unfold pbV
   rw [if_pos hb]
  ·cases hq
theorem pp_ver {path : List Box} {h : Hello} (hq : ppOk path h = true) : (ppV path h).versions = h.versions := by
 unfold ppOk ppV pp at *
 split at hq
 ·rename_i hb
  rw [if_pos hb]; exact ppGo_ver path h hq
 ·cases hq
theorem pw_exts {path : List Box} {h : Hello} : pw h path = (ppOk path h && decide ((ppV path h).exts = h.exts)) := by
 unfold pw
 cases hq : ppOk path h with
 | false => rfl
 | true =>
  rw [Bool.true_and, Bool.true_and]
  have := pp_ver hq
  congr 1
  refine propext ⟨fun e => by rw [e], fun e => ?_⟩
  rcases hp : ppV path h with ⟨a, b⟩
  rw [hp] at this e
  cases h
  simp only at this e
  rw [this, e]
end Go.Vm
