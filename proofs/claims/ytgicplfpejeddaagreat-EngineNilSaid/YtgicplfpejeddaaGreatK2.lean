import Derived.Test.YtgicplfpejeddaaGreatD1
namespace Go.Proofs.YtgicplfpejeddaaGreat
open Go Go.Ev Go.Ev.W
noncomputable section
variable [Tok]
theorem r59 : runsTo (callK Tryz.prog base t59) k59 = true := by kernel_rfl
theorem r60 : runsTo (callK Tryz.prog base t60) k60 = true := by kernel_rfl
theorem r61 : runsTo (callK Tryz.prog base t61) k61 = true := by kernel_rfl
theorem r62 : runsTo (callK Tryz.prog base t62) k62 = true := by kernel_rfl
theorem r63 : runsTo (callK Tryz.prog base t63) k63 = true := by kernel_rfl
theorem r64 : runsTo (callK Tryz.prog base t64) k64 = true := by kernel_rfl
theorem r65 : runsTo (callK Tryz.prog base t65) k65 = true := by kernel_rfl
theorem r66 : runsTo (callK Tryz.prog base t66) k66 = true := by kernel_rfl
theorem r67 : runsTo (callK Tryz.prog base t67) k67 = true := by kernel_rfl
theorem r68 : runsTo (callK Tryz.prog base t68) k68 = true := by kernel_rfl
theorem r69 : runsTo (callK Tryz.prog base t69) k69 = true := by kernel_rfl
theorem r70 : runsTo (callK Tryz.prog base t70) k70 = true := by kernel_rfl
theorem r71 : runsTo (callK Tryz.prog base t71) k71 = true := by kernel_rfl
theorem r72 : runsTo (callK Tryz.prog base t72) k72 = true := by kernel_rfl
theorem r73 : runsTo (callK Tryz.prog base t73) k73 = true := by kernel_rfl
theorem r74 : runsTo (callK Tryz.prog base t74) k74 = true := by kernel_rfl
theorem r75 : runsTo (callK Tryz.prog base t75) k75 = true := by kernel_rfl
theorem r76 : runsTo (callK Tryz.prog base t76) k76 = true := by kernel_rfl
theorem r77 : runsTo (callK Tryz.prog base t77) k77 = true := by kernel_rfl
theorem r78 : runsTo (callK Tryz.prog base t78) k78 = true := by kernel_rfl
end
end Go.Proofs.YtgicplfpejeddaaGreat
