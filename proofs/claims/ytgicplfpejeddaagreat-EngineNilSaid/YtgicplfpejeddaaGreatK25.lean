import Derived.Test.YtgicplfpejeddaaGreatD1
namespace Go.Proofs.YtgicplfpejeddaaGreat
open Go Go.Ev Go.Ev.W
noncomputable section
variable [Tok]
theorem r217 : runsTo (callK Tryz.prog base t217) k217 = true := by kernel_rfl
theorem r218 : runsTo (callK Tryz.prog base t218) k218 = true := by kernel_rfl
theorem r219 : runsTo (callK Tryz.prog base t219) k219 = true := by kernel_rfl
theorem r220 : runsTo (callK Tryz.prog base t220) k220 = true := by kernel_rfl
theorem r221 : runsTo (callK Tryz.prog base t221) k221 = true := by kernel_rfl
theorem r222 : runsTo (callK Tryz.prog base t222) k222 = true := by kernel_rfl
theorem r223 : runsTo (callK Tryz.prog base t223) k223 = true := by kernel_rfl
theorem r224 : runsTo (callK Tryz.prog base t224) k224 = true := by kernel_rfl
theorem r225 : runsTo (callK Tryz.prog base t225) k225 = true := by kernel_rfl
theorem r226 : runsTo (callK Tryz.prog base t226) k226 = true := by kernel_rfl
theorem r227 : runsTo (callK Tryz.prog base t227) k227 = true := by kernel_rfl
theorem r228 : runsTo (callK Tryz.prog base t228) k228 = true := by kernel_rfl
end
end Go.Proofs.YtgicplfpejeddaaGreat
