import Derived.Test.YtgicplfpejeddaaGreatD1
namespace Go.Proofs.YtgicplfpejeddaaGreat
open Go Go.Ev Go.Ev.W
noncomputable section
variable [Tok]
theorem r79 : runsTo (callK Tryz.prog base t79) k79 = true := by kernel_rfl
theorem r80 : runsTo (callK Tryz.prog base t80) k80 = true := by kernel_rfl
theorem r81 : runsTo (callK Tryz.prog base t81) k81 = true := by kernel_rfl
theorem r82 : runsTo (callK Tryz.prog base t82) k82 = true := by kernel_rfl
theorem r83 : runsTo (callK Tryz.prog base t83) k83 = true := by kernel_rfl
theorem r84 : runsTo (callK Tryz.prog base t84) k84 = true := by kernel_rfl
theorem r85 : runsTo (callK Tryz.prog base t85) k85 = true := by kernel_rfl
theorem r86 : runsTo (callK Tryz.prog base t86) k86 = true := by kernel_rfl
theorem r87 : runsTo (callK Tryz.prog base t87) k87 = true := by kernel_rfl
theorem r88 : runsTo (callK Tryz.prog base t88) k88 = true := by kernel_rfl
theorem r89 : runsTo (callK Tryz.prog base t89) k89 = true := by kernel_rfl
theorem r90 : runsTo (callK Tryz.prog base t90) k90 = true := by kernel_rfl
theorem r91 : runsTo (callK Tryz.prog base t91) k91 = true := by kernel_rfl
theorem r92 : runsTo (callK Tryz.prog base t92) k92 = true := by kernel_rfl
theorem r93 : runsTo (callK Tryz.prog base t93) k93 = true := by kernel_rfl
theorem r94 : runsTo (callK Tryz.prog base t94) k94 = true := by kernel_rfl
theorem r95 : runsTo (callK Tryz.prog base t95) k95 = true := by kernel_rfl
theorem r96 : runsTo (callK Tryz.prog base t96) k96 = true := by kernel_rfl
theorem r97 : runsTo (callK Tryz.prog base t97) k97 = true := by kernel_rfl
theorem r98 : runsTo (callK Tryz.prog base t98) k98 = true := by kernel_rfl
end
end Go.Proofs.YtgicplfpejeddaaGreat
