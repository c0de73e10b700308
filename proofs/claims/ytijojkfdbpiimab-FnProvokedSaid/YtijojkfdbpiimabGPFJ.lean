/- What the functions answer. -/
import Derived.Test.YtijojkfdbpiimabGPTab
import Derived.Test.YtijojkfdbpiimabGPFA
import Derived.Test.YtijojkfdbpiimabGPFD
set_option maxHeartbeats 4000000
set_option maxRecDepth 10000
set_option linter.unusedVariables false
set_option linter.unusedSimpArgs false
namespace Go.Vm
theorem copy_id (l : List Ext) : sel (tagIn (sel yesE Ext.tag l)) idE l = l := by
 rw [sel_idE, List.filter_eq_self]
 intro a ha
 unfold tagIn hasI sel
 rw [List.any_eq_true]
 exact ⟨a.tag, List.mem_map.2 ⟨a, by simp [yesE, ha], rfl⟩, by simp⟩
end Go.Vm
