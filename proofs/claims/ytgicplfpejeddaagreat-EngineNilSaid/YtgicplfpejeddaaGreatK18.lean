import Derived.Test.YtgicplfpejeddaaGreatD1
namespace Go.Proofs.YtgicplfpejeddaaGreat
open Go Go.Ev Go.Ev.W
noncomputable section
variable [Tok]
theorem r157 : runsTo (callK Tryz.prog base t157) k157 = true := by kernel_rfl
theorem r158 : runsTo (callK Tryz.prog base t158) k158 = true := by kernel_rfl
theorem r159 : runsTo (callK Tryz.prog base t159) k159 = true := by kernel_rfl
end
end Go.Proofs.YtgicplfpejeddaaGreat
