import Derived.Test.YtgicplfpejeddaaGreatD1
namespace Go.Proofs.YtgicplfpejeddaaGreat
open Go Go.Ev Go.Ev.W
noncomputable section
variable [Tok]
theorem r99 : runsTo (callK Tryz.prog base t99) k99 = true := by kernel_rfl
theorem r100 : runsTo (callK Tryz.prog base t100) k100 = true := by kernel_rfl
theorem r101 : runsTo (callK Tryz.prog base t101) k101 = true := by kernel_rfl
theorem r102 : runsTo (callK Tryz.prog base t102) k102 = true := by kernel_rfl
theorem r103 : runsTo (callK Tryz.prog base t103) k103 = true := by kernel_rfl
theorem r104 : runsTo (callK Tryz.prog base t104) k104 = true := by kernel_rfl
theorem r105 : runsTo (callK Tryz.prog base t105) k105 = true := by kernel_rfl
theorem r106 : runsTo (callK Tryz.prog base t106) k106 = true := by kernel_rfl
theorem r107 : runsTo (callK Tryz.prog base t107) k107 = true := by kernel_rfl
theorem r108 : runsTo (callK Tryz.prog base t108) k108 = true := by kernel_rfl
theorem r109 : runsTo (callK Tryz.prog base t109) k109 = true := by kernel_rfl
theorem r110 : runsTo (callK Tryz.prog base t110) k110 = true := by kernel_rfl
end
end Go.Proofs.YtgicplfpejeddaaGreat
