import Derived.Test.YtgicplfpejeddaaGreatD1
namespace Go.Proofs.YtgicplfpejeddaaGreat
open Go Go.Ev Go.Ev.W
noncomputable section
variable [Tok]
theorem r194 : runsTo (callK Tryz.prog base t194) k194 = true := by kernel_rfl
theorem r195 : runsTo (callK Tryz.prog base t195) k195 = true := by kernel_rfl
theorem r196 : runsTo (callK Tryz.prog base t196) k196 = true := by kernel_rfl
theorem r197 : runsTo (callK Tryz.prog base t197) k197 = true := by kernel_rfl
theorem r198 : runsTo (callK Tryz.prog base t198) k198 = true := by kernel_rfl
theorem r199 : runsTo (callK Tryz.prog base t199) k199 = true := by kernel_rfl
theorem r200 : runsTo (callK Tryz.prog base t200) k200 = true := by kernel_rfl
theorem r201 : runsTo (callK Tryz.prog base t201) k201 = true := by kernel_rfl
theorem r202 : runsTo (callK Tryz.prog base t202) k202 = true := by kernel_rfl
theorem r203 : runsTo (callK Tryz.prog base t203) k203 = true := by kernel_rfl
theorem r204 : runsTo (callK Tryz.prog base t204) k204 = true := by kernel_rfl
end
end Go.Proofs.YtgicplfpejeddaaGreat
