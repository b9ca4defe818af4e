import Derived.Test.YtgicplfpejeddaaGreatD1
namespace Go.Proofs.YtgicplfpejeddaaGreat
open Go Go.Ev Go.Ev.W
noncomputable section
variable [Tok]
theorem r133 : runsTo (callK Tryz.prog base t133) k133 = true := by kernel_rfl
theorem r134 : runsTo (callK Tryz.prog base t134) k134 = true := by kernel_rfl
end
end Go.Proofs.YtgicplfpejeddaaGreat
