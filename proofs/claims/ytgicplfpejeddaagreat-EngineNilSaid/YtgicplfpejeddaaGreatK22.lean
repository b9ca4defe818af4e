import Derived.Test.YtgicplfpejeddaaGreatD1
namespace Go.Proofs.YtgicplfpejeddaaGreat
open Go Go.Ev Go.Ev.W
noncomputable section
variable [Tok]
theorem r183 : runsTo (callK Tryz.prog base t183) k183 = true := by kernel_rfl
theorem r184 : runsTo (callK Tryz.prog base t184) k184 = true := by kernel_rfl
theorem r185 : runsTo (callK Tryz.prog base t185) k185 = true := by kernel_rfl
theorem r186 : runsTo (callK Tryz.prog base t186) k186 = true := by kernel_rfl
theorem r187 : runsTo (callK Tryz.prog base t187) k187 = true := by kernel_rfl
theorem r188 : runsTo (callK Tryz.prog base t188) k188 = true := by kernel_rfl
theorem r189 : runsTo (callK Tryz.prog base t189) k189 = true := by kernel_rfl
theorem r190 : runsTo (callK Tryz.prog base t190) k190 = true := by kernel_rfl
theorem r191 : runsTo (callK Tryz.prog base t191) k191 = true := by kernel_rfl
theorem r192 : runsTo (callK Tryz.prog base t192) k192 = true := by kernel_rfl
theorem r193 : runsTo (callK Tryz.prog base t193) k193 = true := by kernel_rfl
end
end Go.Proofs.YtgicplfpejeddaaGreat
