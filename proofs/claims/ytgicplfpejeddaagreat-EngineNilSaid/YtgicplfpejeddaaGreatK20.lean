import Derived.Test.YtgicplfpejeddaaGreatD1
namespace Go.Proofs.YtgicplfpejeddaaGreat
open Go Go.Ev Go.Ev.W
noncomputable section
variable [Tok]
theorem r163 : runsTo (callK Tryz.prog base t163) k163 = true := by kernel_rfl
theorem r164 : runsTo (callK Tryz.prog base t164) k164 = true := by kernel_rfl
end
end Go.Proofs.YtgicplfpejeddaaGreat
