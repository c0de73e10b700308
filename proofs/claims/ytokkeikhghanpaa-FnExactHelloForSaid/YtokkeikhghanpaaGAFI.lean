/- What the functions answer. -/
import Derived.Test.YtokkeikhghanpaaGATab
import Derived.Test.YtokkeikhghanpaaGAFA
import Derived.Test.YtokkeikhghanpaaGAFC
import Derived.Test.YtokkeikhghanpaaGAFH
set_option maxHeartbeats 4000000
set_option maxRecDepth 10000
set_option linter.unusedVariables false
set_option linter.unusedSimpArgs false
namespace Go.Vm
theorem ok75 (l : List Int) (hl : l.length ≤ 1099511627776) {f0 : Fl} (h0 : inFl f0 = true) : fix Tb md 75 [R (row fI l) f0] = some ⟨[sHello (row fI l) [] (.ow false) .nl], [], none⟩ := by
 refine fix_fn (fn := ir75) tb_75 rfl rfl (by decide) rfl ?_; simp only [shutArgs, shutS, List.map_cons, List.map_nil, ir75, shut_in h0, List.head?_nil, reduceCtorEq, if_false, sExt, sHello, sAnswer, sEdit, sDeal, sBox, sDialed, sKnown]
 generalize hr : (⟨_, [], none⟩ : Ret) = r
 obtain ⟨ea, hea⟩ := nm (row fI l)
 rw [← hea] at hr ⊢
 intro add sub mul arith eq ne lt le gt ge neg conv mn mx not beq len at' ln bd cut app allS isNil mks set o hP F ho
 cbv
 rw [show allS ea = true from F.scal hea (fun _ => rfl)]; cbv
 rw [F.app_nil hea (fun _ => rfl) hl]; cbv
 exact congrArg some hr
theorem ok166 (path : List Box) (versions : List Int) (pl : path.length ≤ 1073741824) (pm : ∀ y ∈ path, y.Mid) (hv : versions.length ≤ 1073741824) {f0 f1 : Fl} (q0 : inFl f0 = true) (q1 : inFl f1 = true) : fix Tb md 166 [R (row fBox path) f0, R (row fI versions) f1] = some ⟨[B (iop path versions)], [], none⟩ := by
 obtain ⟨u, hu⟩ := nm (areVer versions)
 obtain ⟨w, hw⟩ := nm (ppOk path ⟨versions.take 1, []⟩)
 rw [show iop path versions = (u && w) by rw [hu, hw]; rfl]
 generalize hr : (⟨_, [], none⟩ : Ret) = r
 have rA : u = true → (⟨[B w], [], none⟩ : Ret) = r := fun h => by rw [← hr, h]; rfl
 have rC : u = false → (⟨[B false], [], none⟩ : Ret) = r := fun h => by rw [← hr, h]; rfl
 clear hr
 have hk := ok196 path ⟨versions.take 1, []⟩ pl pm ⟨by simp; omega, by simp, by simp⟩ (f0 := .sp 0 0) (f1 := .sp 1 0) (f2 := .nl) rfl rfl rfl
 rw [show row fExt (⟨versions.take 1, []⟩ : Hello).exts = [] from rfl, show (⟨versions.take 1, []⟩ : Hello).versions = versions.take 1 from rfl, ← hw] at hk
 obtain ⟨ep, hep⟩ := nm (row fBox path)
 obtain ⟨ev, hev⟩ := nm (row fI versions)
 obtain ⟨e1, he1⟩ := nm (row fI (versions.take 1))
 rw [← hep, ← he1] at hk
 rw [← hep, ← hev]
 obtain ⟨V1, hV1⟩ := nm (row fI (ppV path ⟨versions.take 1, []⟩).versions)
 obtain ⟨X1, hX1⟩ := nm (row fExt (ppV path ⟨versions.take 1, []⟩).exts)
 rw [← hV1, ← hX1] at hk
 refine fix_fn2 (fn := ir166) tb_166 rfl rfl (by decide) rfl ?_; intro Q hQ; simp only [shutArgs, shutS, List.map_cons, List.map_nil, ir166, shut_in q0, shut_in q1, List.head?_nil, reduceCtorEq, if_false, sExt, sHello, sAnswer, sEdit, sDeal, sBox, sDialed, sKnown]
 intro add sub mul arith eq ne lt le gt ge neg conv mn mx not beq len at' ln bd cut app allS isNil mks set o hP F ho
 have c1 : o 257 [R ev (.sp 0 0)] = some ⟨[B u], [], none⟩ := by rw [ho, hu, hev]; exact ok257 _ (by omega) rfl
 have c2 : o 75 [R e1 (.sp 0 0)] = some ⟨[sHello e1 [] (.ow false) .nl], [], none⟩ := by rw [ho, he1]; exact ok75 _ (by simp; omega) rfl
 obtain ⟨one, hone⟩ := nm (1)
 have p1 : u = true → bd (ln ev) 1 = some one := fun h => by
  rw [hu] at h
  unfold areVer at h
  simp only [Bool.and_eq_true, decide_eq_true_eq] at h
  rw [F.ln' hev, hone]; exact F.bd' (show At 1 1 from rfl) h.2
 have p2 : cut 1 ev one 0 = some e1 := by rw [F.cut' hev (fun _ => rfl), he1, hone]; rfl
 cbv
 rw [c1]; cbv
 refine both (fun d1 => ?_) (fun d1 => ?_) <;> rw [d1] <;> cbv
 ·rw [hQ]; cbv
  exact congrArg some (rC (F.not_t d1))
 have p1' := p1 (F.not_f d1)
 rw [p1']; cbv
 rw [p2]; cbv
 rw [c2]; cbv
 rcases hk with hk | ⟨n1, hk⟩ | ⟨n1, n2, hk⟩
 ·have c3 : o 196 [R ep (.sp 0 0), sHello e1 [] (.sp 1 0) .nl] = some ⟨[sHello V1 X1 (.ow false) (.ow false), B w], [], none⟩ := by rw [ho]; exact hk
  rw [c3]; cbv
  rw [hQ]; cbv
  exact congrArg some (rA (F.not_f d1))
 ·have c3 : o 196 [R ep (.sp 0 0), sHello e1 [] (.sp 1 0) .nl] = some ⟨[sHello V1 [] (.ow false) .nl, B w], [], none⟩ := by rw [ho]; exact hk
  rw [c3]; cbv
  rw [hQ]; cbv
  exact congrArg some (rA (F.not_f d1))
 ·have c3 : o 196 [R ep (.sp 0 0), sHello e1 [] (.sp 1 0) .nl] = some ⟨[sHello [] [] .nl .nl, B w], [], none⟩ := by rw [ho]; exact hk
  rw [c3]; cbv
  rw [hQ]; cbv
  exact congrArg some (rA (F.not_f d1))
end Go.Vm
