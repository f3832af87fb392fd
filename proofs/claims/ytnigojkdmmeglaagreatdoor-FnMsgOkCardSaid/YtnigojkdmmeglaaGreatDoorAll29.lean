/- The laws FnMsgOk, FnSitFree: part 29 of 41. No conditions beyond the statement. -/
import Derived.Test.YtnigojkdmmeglaaGreatDoorAll23
import Derived.Test.YtnigojkdmmeglaaGreatDoorAll26
set_option linter.unusedVariables false
set_option linter.unusedSimpArgs false
set_option maxRecDepth 100000
set_option maxHeartbeats 16000000
section
namespace Cc
open Go Go.AM
end Cc
end
