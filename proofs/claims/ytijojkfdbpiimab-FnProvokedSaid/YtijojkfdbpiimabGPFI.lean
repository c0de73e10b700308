/- What the functions answer. -/
import Derived.Test.YtijojkfdbpiimabGPTab
import Derived.Test.YtijojkfdbpiimabGPFA
import Derived.Test.YtijojkfdbpiimabGPFB
import Derived.Test.YtijojkfdbpiimabGPFC
set_option maxHeartbeats 4000000
set_option maxRecDepth 10000
set_option linter.unusedVariables false
set_option linter.unusedSimpArgs false
namespace Go.Vm
theorem share {P G C : Prop} (main : (P → G) → C) (proof : P → G) : C := main proof
end Go.Vm
