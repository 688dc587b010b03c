/- Chapter 5: a part of its proof (cut by program out of WGuard); no condition. -/
import Derived.Test.YtgbmaajfbbilhaaGreatKn0
set_option linter.unusedVariables false
set_option linter.unusedSimpArgs false
set_option linter.unusedSectionVars false
set_option maxRecDepth 100000
set_option maxHeartbeats 8000000

