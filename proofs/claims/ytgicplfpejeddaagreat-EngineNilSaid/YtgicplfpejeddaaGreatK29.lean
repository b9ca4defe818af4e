import Derived.Test.YtgicplfpejeddaaGreatD1
namespace Go.Proofs.YtgicplfpejeddaaGreat
open Go Go.Ev Go.Ev.W
noncomputable section
variable [Tok]
theorem r243 : runsTo (callK Tryz.prog base t243) k243 = true := by kernel_rfl
theorem r244 : runsTo (callK Tryz.prog base t244) k244 = true := by kernel_rfl
theorem r245 : runsTo (callK Tryz.prog base t245) k245 = true := by kernel_rfl
end
end Go.Proofs.YtgicplfpejeddaaGreat
