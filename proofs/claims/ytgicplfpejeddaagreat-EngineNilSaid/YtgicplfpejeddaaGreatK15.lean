import Derived.Test.YtgicplfpejeddaaGreatD1
namespace Go.Proofs.YtgicplfpejeddaaGreat
open Go Go.Ev Go.Ev.W
noncomputable section
variable [Tok]
theorem r148 : runsTo (callK Tryz.prog base t148) k148 = true := by kernel_rfl
theorem r149 : runsTo (callK Tryz.prog base t149) k149 = true := by kernel_rfl
theorem r150 : runsTo (callK Tryz.prog base t150) k150 = true := by kernel_rfl
end
end Go.Proofs.YtgicplfpejeddaaGreat
