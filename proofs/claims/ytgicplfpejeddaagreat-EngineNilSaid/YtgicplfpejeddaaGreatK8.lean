import Derived.Test.YtgicplfpejeddaaGreatD1
namespace Go.Proofs.YtgicplfpejeddaaGreat
open Go Go.Ev Go.Ev.W
noncomputable section
variable [Tok]
theorem r131 : runsTo (callK Tryz.prog base t131) k131 = true := by kernel_rfl
theorem r132 : runsTo (callK Tryz.prog base t132) k132 = true := by kernel_rfl
end
end Go.Proofs.YtgicplfpejeddaaGreat
