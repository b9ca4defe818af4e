import Derived.Test.YtgicplfpejeddaaGreatD1
namespace Go.Proofs.YtgicplfpejeddaaGreat
open Go Go.Ev Go.Ev.W
noncomputable section
variable [Tok]
theorem r142 : runsTo (callK Tryz.prog base t142) k142 = true := by kernel_rfl
theorem r143 : runsTo (callK Tryz.prog base t143) k143 = true := by kernel_rfl
theorem r144 : runsTo (callK Tryz.prog base t144) k144 = true := by kernel_rfl
end
end Go.Proofs.YtgicplfpejeddaaGreat
