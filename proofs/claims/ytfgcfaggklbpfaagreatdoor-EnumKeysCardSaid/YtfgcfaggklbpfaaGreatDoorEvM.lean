/- What awake comes to: by the kernel's own evaluation. -/
import Derived.Test.YtfgcfaggklbpfaaGreatDoorEvL
set_option linter.unnecessarySimpa false
set_option linter.unusedVariables false
set_option linter.unusedSimpArgs false
set_option linter.unusedSectionVars false
namespace Go.Ev
set_option maxRecDepth 100000
theorem awake_run : xrun TT HH 1000 [] n_law21_awake [] [] = some (.ret (.b true), []) := by kernel_rfl
theorem awake_spec : runV TT HH [] n_law21_awake [] [] = some (.ret (.b true), []) := runV_xrun awake_run
end Go.Ev

