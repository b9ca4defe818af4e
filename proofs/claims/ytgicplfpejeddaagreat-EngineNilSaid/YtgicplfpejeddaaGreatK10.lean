import Derived.Test.YtgicplfpejeddaaGreatD1
namespace Go.Proofs.YtgicplfpejeddaaGreat
open Go Go.Ev Go.Ev.W
noncomputable section
variable [Tok]
theorem r135 : runsTo (callK Tryz.prog base t135) k135 = true := by kernel_rfl
theorem r136 : runsTo (callK Tryz.prog base t136) k136 = true := by kernel_rfl
end
end Go.Proofs.YtgicplfpejeddaaGreat
