import Derived.Test.YtgicplfpejeddaaGreatD1
namespace Go.Proofs.YtgicplfpejeddaaGreat
open Go Go.Ev Go.Ev.W
noncomputable section
variable [Tok]
theorem r239 : runsTo (callK Tryz.prog base t239) k239 = true := by kernel_rfl
theorem r240 : runsTo (callK Tryz.prog base t240) k240 = true := by kernel_rfl
end
end Go.Proofs.YtgicplfpejeddaaGreat
