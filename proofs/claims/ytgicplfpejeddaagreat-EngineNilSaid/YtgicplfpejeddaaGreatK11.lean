import Derived.Test.YtgicplfpejeddaaGreatD1
namespace Go.Proofs.YtgicplfpejeddaaGreat
open Go Go.Ev Go.Ev.W
noncomputable section
variable [Tok]
theorem r137 : runsTo (callK Tryz.prog base t137) k137 = true := by kernel_rfl
theorem r138 : runsTo (callK Tryz.prog base t138) k138 = true := by kernel_rfl
end
end Go.Proofs.YtgicplfpejeddaaGreat
