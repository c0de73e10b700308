/- What the functions answer. -/
import Derived.Test.YtijojkfdbpiimabGPTab
import Derived.Test.YtijojkfdbpiimabGPFA
import Derived.Test.YtijojkfdbpiimabGPFB
import Derived.Test.YtijojkfdbpiimabGPFC
import Derived.Test.YtijojkfdbpiimabGPFD
import Derived.Test.YtijojkfdbpiimabGPFF
import Derived.Test.YtijojkfdbpiimabGPFK
import Derived.Test.YtijojkfdbpiimabGPFM
set_option maxHeartbeats 4000000
set_option maxRecDepth 10000
set_option linter.unusedVariables false
set_option linter.unusedSimpArgs false
namespace Go.Vm
end Go.Vm
