import Derived.Test.YtgicplfpejeddaaGreatD1
namespace Go.Proofs.YtgicplfpejeddaaGreat
open Go Go.Ev Go.Ev.W
noncomputable section
variable [Tok]
theorem r160 : runsTo (callK Tryz.prog base t160) k160 = true := by kernel_rfl
theorem r161 : runsTo (callK Tryz.prog base t161) k161 = true := by kernel_rfl
theorem r162 : runsTo (callK Tryz.prog base t162) k162 = true := by kernel_rfl
end
end Go.Proofs.YtgicplfpejeddaaGreat
