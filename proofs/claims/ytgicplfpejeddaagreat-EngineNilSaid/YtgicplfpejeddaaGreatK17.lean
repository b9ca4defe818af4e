import Derived.Test.YtgicplfpejeddaaGreatD1
namespace Go.Proofs.YtgicplfpejeddaaGreat
open Go Go.Ev Go.Ev.W
noncomputable section
variable [Tok]
theorem r154 : runsTo (callK Tryz.prog base t154) k154 = true := by kernel_rfl
theorem r155 : runsTo (callK Tryz.prog base t155) k155 = true := by kernel_rfl
theorem r156 : runsTo (callK Tryz.prog base t156) k156 = true := by kernel_rfl
end
end Go.Proofs.YtgicplfpejeddaaGreat
