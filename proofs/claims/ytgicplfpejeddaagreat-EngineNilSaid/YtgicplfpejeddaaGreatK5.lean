import Derived.Test.YtgicplfpejeddaaGreatD1
namespace Go.Proofs.YtgicplfpejeddaaGreat
open Go Go.Ev Go.Ev.W
noncomputable section
variable [Tok]
theorem r111 : runsTo (callK Tryz.prog base t111) k111 = true := by kernel_rfl
theorem r112 : runsTo (callK Tryz.prog base t112) k112 = true := by kernel_rfl
theorem r113 : runsTo (callK Tryz.prog base t113) k113 = true := by kernel_rfl
theorem r114 : runsTo (callK Tryz.prog base t114) k114 = true := by kernel_rfl
theorem r115 : runsTo (callK Tryz.prog base t115) k115 = true := by kernel_rfl
theorem r116 : runsTo (callK Tryz.prog base t116) k116 = true := by kernel_rfl
theorem r117 : runsTo (callK Tryz.prog base t117) k117 = true := by kernel_rfl
theorem r118 : runsTo (callK Tryz.prog base t118) k118 = true := by kernel_rfl
theorem r119 : runsTo (callK Tryz.prog base t119) k119 = true := by kernel_rfl
theorem r120 : runsTo (callK Tryz.prog base t120) k120 = true := by kernel_rfl
theorem r121 : runsTo (callK Tryz.prog base t121) k121 = true := by kernel_rfl
theorem r122 : runsTo (callK Tryz.prog base t122) k122 = true := by kernel_rfl
theorem r123 : runsTo (callK Tryz.prog base t123) k123 = true := by kernel_rfl
theorem r124 : runsTo (callK Tryz.prog base t124) k124 = true := by kernel_rfl
end
end Go.Proofs.YtgicplfpejeddaaGreat
