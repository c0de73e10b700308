/- What the functions answer. -/
import Derived.Test.YtijojkfdbpiimaaGreatGDTab
import Derived.Test.YtijojkfdbpiimaaGreatGDFA
import Derived.Test.YtijojkfdbpiimaaGreatGDFB
import Derived.Test.YtijojkfdbpiimaaGreatGDFD
set_option maxHeartbeats 4000000
set_option maxRecDepth 10000
set_option linter.unusedVariables false
set_option linter.unusedSimpArgs false
namespace Go.Vm
def caOk (vs : List Int) (h : Hello) : Bool := isHel h && !decide (bestC vs h.versions = 0)
def caX (tg : List Int) (l : List Ext) : List Ext := sel notRes idE (sel (tagIn tg) idE l)
def caV (vs tg : List Int) (h : Hello) : Answer := if caOk vs h then ⟨bestC vs h.versions, caX tg h.exts⟩ else ⟨0, []⟩
theorem caV_mid {vs tg : List Int} {h : Hello} (m : h.Mid) : (caV vs tg h).Mid := by
 unfold caV
 split
 ·unfold Hello.Mid at m
  refine ⟨Nat.le_trans sel_len (Nat.le_trans sel_len m.2.1), fun y hy => m.2.2 y ?_⟩
  simp only [caX, sel_idE] at hy
  exact (List.mem_filter.1 (List.mem_filter.1 hy).1).1
 ·exact ⟨by simp, by simp⟩
theorem ok168r (vs tg : List Int) (h : Hello) (hv : vs.length ≤ 1073741824) (ht : tg.length ≤ 1073741824) (mh : h.Mid) {f0 f1 f2 f3 : Fl} (q0 : inFl f0 = true) (q1 : inFl f1 = true) (q2 : inFl f2 = true) (q3 : inFl f3 = true) (r : Ret)
  (rA' : caOk vs h = true → (⟨[sAnswer (caV vs tg h).version (row fExt (caV vs tg h).exts) (.ow false), B true], [], none⟩ : Ret) = r) (rC' : caOk vs h = false → (⟨[sAnswer 0 [] .nl, B false], [], none⟩ : Ret) = r) :
  fix Tb md 168 [R (row fI vs) f0, R (row fI tg) f1, sHello (row fI h.versions) (row fExt h.exts) f2 f3] = some r := by
 have mh' := mh
 unfold Hello.Mid at mh'
 have hvl := mh'.1
 have hxl := mh'.2.1
 have wh : ∀ y ∈ h.exts, y.body.length ≤ 1099511627776 := fun y hy => Nat.le_trans (show y.body.length ≤ 1073741824 from mh'.2.2 y hy) (by decide)
 obtain ⟨u, hu⟩ := nm (isHel h)
 obtain ⟨n, hn⟩ := nm (bestC vs h.versions)
 obtain ⟨K, hK⟩ := nm (sel (tagIn tg) idE h.exts)
 obtain ⟨Z, hZ⟩ := nm (sel notRes idE K)
 have hKl : K.length ≤ 1073741824 := by rw [hK]; exact Nat.le_trans sel_len hxl
 have wK : ∀ y ∈ K, y.body.length ≤ 1099511627776 := fun y hy => wh y (by rw [hK, sel_idE] at hy; exact (List.mem_filter.1 hy).1)
 have hok : caOk vs h = (u && !decide (n = 0)) := by rw [hu, hn]; rfl
 have rA : u = true → decide (n = 0) = false → (⟨[sAnswer n (row fExt Z) (.ow false), B true], [], none⟩ : Ret) = r := fun q1 q2 => by
  have hk : caOk vs h = true := by rw [hok, q1, q2]; rfl
  rw [← rA' hk, show caV vs tg h = ⟨n, Z⟩ by rw [caV, hk, if_pos rfl, hn, hZ, hK]; rfl]
 have rC : u = false ∨ decide (n = 0) = true → (⟨[sAnswer 0 [] .nl, B false], [], none⟩ : Ret) = r := fun q => rC' (by rcases q with q | q <;> rw [hok, q] <;> simp)
 clear rA' rC' hok
 obtain ⟨ev, hev⟩ := nm (row fI vs)
 obtain ⟨et, het⟩ := nm (row fI tg)
 obtain ⟨dv, hdv⟩ := nm (row fI h.versions)
 obtain ⟨dx, hdx⟩ := nm (row fExt h.exts)
 rw [← hev, ← het, ← hdv, ← hdx]
 obtain ⟨ek, hek⟩ := nm (row fExt K)
 obtain ⟨ez, hez⟩ := nm (row fExt Z)
 rw [← hez] at rA
 refine fix_fn2 (fn := ir168) tb_168 rfl rfl (by decide) rfl ?_; intro Q hQ; simp only [shutArgs, shutS, List.map_cons, List.map_nil, ir168, shut_in q0, shut_in q1, shut_in q2, shut_in q3, List.head?_nil, reduceCtorEq, if_false, sExt, sHello, sAnswer, sEdit, sDeal, sBox, sDialed, sKnown]
 intro add sub mul arith eq ne lt le gt ge neg conv mn mx not beq len at' ln bd cut app allS isNil mks set o hP F ho
 have c1 : o 112 [R ev (.sp 0 0), R dv (.sp 1 0)] = some ⟨[I n], [], none⟩ := by rw [ho, hn, hev, hdv]; exact ok112 _ _ hv hvl rfl rfl
 have c2 : o 142 [sHello dv dx (.sp 0 0) (.sp 0 1)] = some ⟨[B u], [], none⟩ := by rw [ho, hu, hdv, hdx]; exact ok142 _ (by omega) (by omega) wh rfl rfl
 have c3 : o 307 [R dx (.sp 0 0), R et (.sp 1 0)] = some ⟨[R ek (.ow false)], [], none⟩ := by rw [ho, hek, hK, hdx, het]; exact ok307 _ _ hxl ht wh rfl rfl
 have c4 : o 306 [R ek (.sp 0 0)] = some ⟨[R ez (.ow false)], [], none⟩ := by rw [ho, hez, hZ, hek]; exact ok306 _ hKl wK rfl
 have g1 : eq n 0 = decide (n = 0) := F.eq ..
 cbv
 rw [c1]; cbv
 rw [c2]; cbv
 refine both (fun d1 => ?_) (fun d1 => ?_) <;> rw [d1] <;> cbv
 ·rw [hQ]; cbv
  exact congrArg some (rC (.inl (F.not_t d1)))
 refine both (fun d2 => ?_) (fun d2 => ?_) <;> rw [d2] <;> cbv
 ·rw [hQ]; cbv
  exact congrArg some (rC (.inr (by rw [← g1, d2])))
 rw [c3]; cbv
 rw [c4]; cbv
 rw [hQ]; cbv
 exact congrArg some (rA (F.not_f d1) (by rw [← g1, d2]))
theorem ok168a (vs tg : List Int) (h : Hello) (hv : vs.length ≤ 1073741824) (ht : tg.length ≤ 1073741824) (mh : h.Mid) {f0 f1 f2 f3 : Fl} (q0 : inFl f0 = true) (q1 : inFl f1 = true) (q2 : inFl f2 = true) (q3 : inFl f3 = true) (q : caOk vs h = true) :
  fix Tb md 168 [R (row fI vs) f0, R (row fI tg) f1, sHello (row fI h.versions) (row fExt h.exts) f2 f3] = some ⟨[sAnswer (caV vs tg h).version (row fExt (caV vs tg h).exts) (.ow false), B true], [], none⟩ :=
 ok168r vs tg h hv ht mh q0 q1 q2 q3 _ (fun _ => rfl) (fun e => by rw [q] at e; cases e)
theorem ok168b (vs tg : List Int) (h : Hello) (hv : vs.length ≤ 1073741824) (ht : tg.length ≤ 1073741824) (mh : h.Mid) {f0 f1 f2 f3 : Fl} (q0 : inFl f0 = true) (q1 : inFl f1 = true) (q2 : inFl f2 = true) (q3 : inFl f3 = true) (q : caOk vs h = false) :
  fix Tb md 168 [R (row fI vs) f0, R (row fI tg) f1, sHello (row fI h.versions) (row fExt h.exts) f2 f3] = some ⟨[sAnswer 0 [] .nl, B false], [], none⟩ :=
 ok168r vs tg h hv ht mh q0 q1 q2 q3 _ (fun e => by rw [q] at e; cases e) (fun _ => rfl)
theorem ok168 (vs tg : List Int) (h : Hello) (hv : vs.length ≤ 1073741824) (ht : tg.length ≤ 1073741824) (mh : h.Mid) {f0 f1 f2 f3 : Fl} (q0 : inFl f0 = true) (q1 : inFl f1 = true) (q2 : inFl f2 = true) (q3 : inFl f3 = true) :
  fix Tb md 168 [R (row fI vs) f0, R (row fI tg) f1, sHello (row fI h.versions) (row fExt h.exts) f2 f3] = some ⟨[sAnswer (caV vs tg h).version (row fExt (caV vs tg h).exts) (.ow false), B (caOk vs h)], [], none⟩ ∨
  ((caV vs tg h).exts = [] ∧ fix Tb md 168 [R (row fI vs) f0, R (row fI tg) f1, sHello (row fI h.versions) (row fExt h.exts) f2 f3] = some ⟨[sAnswer (caV vs tg h).version [] .nl, B (caOk vs h)], [], none⟩) := by
 cases q : caOk vs h with
 | true => exact .inl (ok168a vs tg h hv ht mh q0 q1 q2 q3 q)
 | false =>
  rw [show caV vs tg h = ⟨0, []⟩ by rw [caV, q]; rfl]
  exact .inr ⟨rfl, ok168b vs tg h hv ht mh q0 q1 q2 q3 q⟩
end Go.Vm
