import Derived.Test.YtgicplfpejeddaaGreatD1
namespace Go.Proofs.YtgicplfpejeddaaGreat
open Go Go.Ev Go.Ev.W
noncomputable section
variable [Tok]
theorem r129 : runsTo (callK Tryz.prog base t129) k129 = true := by kernel_rfl
theorem r130 : runsTo (callK Tryz.prog base t130) k130 = true := by kernel_rfl
end
end Go.Proofs.YtgicplfpejeddaaGreat
