import Derived.Test.YtgicplfpejeddaaGreatD1
namespace Go.Proofs.YtgicplfpejeddaaGreat
open Go Go.Ev Go.Ev.W
noncomputable section
variable [Tok]
theorem r145 : runsTo (callK Tryz.prog base t145) k145 = true := by kernel_rfl
theorem r146 : runsTo (callK Tryz.prog base t146) k146 = true := by kernel_rfl
theorem r147 : runsTo (callK Tryz.prog base t147) k147 = true := by kernel_rfl
end
end Go.Proofs.YtgicplfpejeddaaGreat
