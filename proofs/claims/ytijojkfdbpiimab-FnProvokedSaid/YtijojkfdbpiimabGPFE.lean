/- What the functions answer. -/
import Derived.Test.YtijojkfdbpiimabGPTab
import Derived.Test.YtijojkfdbpiimabGPFA
import Derived.Test.YtijojkfdbpiimabGPFB
import Derived.Test.YtijojkfdbpiimabGPFD
set_option maxHeartbeats 4000000
set_option maxRecDepth 10000
set_option linter.unusedVariables false
set_option linter.unusedSimpArgs false
namespace Go.Vm
def notTagIn (b : List Int) (e : Ext) : Bool := !hasI b e.tag
def partOk (h : Hello) (lv : List Int) : Bool := isHel h && !decide ((sel (notIn lv) idI h.versions).length = 0)
def partV (h : Hello) (lv tg : List Int) : Hello := if partOk h lv = true then ⟨sel (notIn lv) idI h.versions, sel (notTagIn tg) idE h.exts⟩ else ⟨[], []⟩
theorem partV_mid {h : Hello} {lv tg : List Int} (m : h.Mid) : (partV h lv tg).Mid := by
 unfold partV
 split
 ·unfold Hello.Mid at *
  exact ⟨Nat.le_trans sel_len m.1, Nat.le_trans sel_len m.2.1, fun y hy => m.2.2 y (by simp only [sel_idE] at hy; exact (List.mem_filter.1 hy).1)⟩
 ·exact ⟨by simp, by simp, by simp⟩
end Go.Vm
