/- What the functions answer. -/
import Derived.Test.YtijojkfdbpiimaaGreatGDTab
import Derived.Test.YtijojkfdbpiimaaGreatGDFA
import Derived.Test.YtijojkfdbpiimaaGreatGDFB
import Derived.Test.YtijojkfdbpiimaaGreatGDFD
set_option maxHeartbeats 4000000
set_option maxRecDepth 10000
set_option linter.unusedVariables false
set_option linter.unusedSimpArgs false
namespace Go.Vm
theorem copy_id (l : List Ext) : sel (tagIn (sel yesE Ext.tag l)) idE l = l := by
 rw [sel_idE, List.filter_eq_self]
 intro a ha
 unfold tagIn hasI sel
 rw [List.any_eq_true]
 exact ⟨a.tag, List.mem_map.2 ⟨a, by simp [yesE, ha], rfl⟩, by simp⟩
theorem ok295 (l : List Ext) (hl : l.length ≤ 1073741824) (w : ∀ y ∈ l, y.body.length ≤ 1099511627776) {f0 : Fl} (h0 : inFl f0 = true) : fix Tb md 295 [R (row fExt l) f0] = some ⟨[R (row fExt l) (.ow false)], [], none⟩ := by
 obtain ⟨ea, hea⟩ := nm (row fExt l)
 rw [← hea]
 generalize hr : (⟨_, [], none⟩ : Ret) = r
 obtain ⟨et, het⟩ := nm (row fI (sel yesE Ext.tag l))
 have hlen : (sel yesE Ext.tag l).length ≤ l.length := sel_len
 refine fix_fn2 (fn := ir295) tb_295 rfl rfl (by decide) rfl ?_; intro Q hQ; simp only [shutArgs, shutS, List.map_cons, List.map_nil, ir295, shut_in h0, List.head?_nil, reduceCtorEq, if_false, sExt, sHello, sAnswer, sEdit, sDeal, sBox, sDialed, sKnown]
 intro add sub mul arith eq ne lt le gt ge neg conv mn mx not beq len at' ln bd cut app allS isNil mks set o hP F ho
 have c1 : o 280 [R ea (.sp 0 0)] = some ⟨[R et (.ow false)], [], none⟩ := by rw [ho, het, hea]; exact ok280 _ hl rfl
 have c2 : o 307 [R ea (.sp 0 0), R et (.sp 1 0)] = some ⟨[R ea (.ow false)], [], none⟩ := by
  rw [ho, het, hea]
  have h := ok307 l (sel yesE Ext.tag l) hl (by omega) w (f0 := .sp 0 0) (f1 := .sp 1 0) rfl rfl
  rw [copy_id] at h
  exact h
 cbv
 rw [c1]; cbv
 rw [c2]; cbv
 rw [hQ]; cbv
 exact congrArg some hr
theorem ok279 (h : Hello) (mh : h.Mid) {f0 f1 : Fl} (q0 : inFl f0 = true) (q1 : inFl f1 = true) : fix Tb md 279 [sHello (row fI h.versions) (row fExt h.exts) f0 f1] = some ⟨[sHello (row fI h.versions) (row fExt h.exts) (.ow false) (.ow false)], [], none⟩ := by
 have mh' := mh
 unfold Hello.Mid at mh'
 obtain ⟨ev, hev⟩ := nm (row fI h.versions)
 obtain ⟨ex, hex⟩ := nm (row fExt h.exts)
 rw [← hev, ← hex]
 generalize hr : (⟨_, [], none⟩ : Ret) = r
 refine fix_fn2 (fn := ir279) tb_279 rfl rfl (by decide) rfl ?_; intro Q hQ; simp only [shutArgs, shutS, List.map_cons, List.map_nil, ir279, shut_in q0, shut_in q1, List.head?_nil, reduceCtorEq, if_false, sExt, sHello, sAnswer, sEdit, sDeal, sBox, sDialed, sKnown]
 intro add sub mul arith eq ne lt le gt ge neg conv mn mx not beq len at' ln bd cut app allS isNil mks set o hP F ho
 have c1 : o 295 [R ex (.sp 0 0)] = some ⟨[R ex (.ow false)], [], none⟩ := by rw [ho, hex]; exact ok295 _ mh'.2.1 (fun y hy => Nat.le_trans (show y.body.length ≤ 1073741824 from mh'.2.2 y hy) (by decide)) rfl
 cbv
 rw [show allS ev = true from F.scal hev (fun _ => rfl)]; cbv
 rw [F.app_nil hev (fun _ => rfl) (Nat.le_trans mh'.1 (by decide))]; cbv
 rw [c1]; cbv
 rw [hQ]; cbv
 exact congrArg some hr
end Go.Vm
