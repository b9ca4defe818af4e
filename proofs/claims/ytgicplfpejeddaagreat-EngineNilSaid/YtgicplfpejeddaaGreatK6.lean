import Derived.Test.YtgicplfpejeddaaGreatD1
namespace Go.Proofs.YtgicplfpejeddaaGreat
open Go Go.Ev Go.Ev.W
noncomputable section
variable [Tok]
theorem r125 : runsTo (callK Tryz.prog base t125) k125 = true := by kernel_rfl
theorem r126 : runsTo (callK Tryz.prog base t126) k126 = true := by kernel_rfl
theorem r127 : runsTo (callK Tryz.prog base t127) k127 = true := by kernel_rfl
theorem r128 : runsTo (callK Tryz.prog base t128) k128 = true := by kernel_rfl
end
end Go.Proofs.YtgicplfpejeddaaGreat
