import Derived.Test.YtgicplfpejeddaaGreatD1
namespace Go.Proofs.YtgicplfpejeddaaGreat
open Go Go.Ev Go.Ev.W
noncomputable section
variable [Tok]
theorem r241 : runsTo (callK Tryz.prog base t241) k241 = true := by kernel_rfl
theorem r242 : runsTo (callK Tryz.prog base t242) k242 = true := by kernel_rfl
end
end Go.Proofs.YtgicplfpejeddaaGreat
