import Derived.Test.YtgicplfpejeddaaGreatD1
namespace Go.Proofs.YtgicplfpejeddaaGreat
open Go Go.Ev Go.Ev.W
noncomputable section
variable [Tok]
theorem r151 : runsTo (callK Tryz.prog base t151) k151 = true := by kernel_rfl
theorem r152 : runsTo (callK Tryz.prog base t152) k152 = true := by kernel_rfl
theorem r153 : runsTo (callK Tryz.prog base t153) k153 = true := by kernel_rfl
end
end Go.Proofs.YtgicplfpejeddaaGreat
