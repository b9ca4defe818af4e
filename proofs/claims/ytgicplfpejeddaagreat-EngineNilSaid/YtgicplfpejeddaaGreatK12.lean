import Derived.Test.YtgicplfpejeddaaGreatD1
namespace Go.Proofs.YtgicplfpejeddaaGreat
open Go Go.Ev Go.Ev.W
noncomputable section
variable [Tok]
theorem r139 : runsTo (callK Tryz.prog base t139) k139 = true := by kernel_rfl
theorem r140 : runsTo (callK Tryz.prog base t140) k140 = true := by kernel_rfl
theorem r141 : runsTo (callK Tryz.prog base t141) k141 = true := by kernel_rfl
end
end Go.Proofs.YtgicplfpejeddaaGreat
