import Derived.Test.YtgicplfpejeddaaGreatD1
namespace Go.Proofs.YtgicplfpejeddaaGreat
open Go Go.Ev Go.Ev.W
noncomputable section
variable [Tok]
theorem r229 : runsTo (callK Tryz.prog base t229) k229 = true := by kernel_rfl
theorem r230 : runsTo (callK Tryz.prog base t230) k230 = true := by kernel_rfl
theorem r231 : runsTo (callK Tryz.prog base t231) k231 = true := by kernel_rfl
theorem r232 : runsTo (callK Tryz.prog base t232) k232 = true := by kernel_rfl
theorem r233 : runsTo (callK Tryz.prog base t233) k233 = true := by kernel_rfl
theorem r234 : runsTo (callK Tryz.prog base t234) k234 = true := by kernel_rfl
theorem r235 : runsTo (callK Tryz.prog base t235) k235 = true := by kernel_rfl
theorem r236 : runsTo (callK Tryz.prog base t236) k236 = true := by kernel_rfl
theorem r237 : runsTo (callK Tryz.prog base t237) k237 = true := by kernel_rfl
theorem r238 : runsTo (callK Tryz.prog base t238) k238 = true := by kernel_rfl
end
end Go.Proofs.YtgicplfpejeddaaGreat
