import Derived.Test.YtgicplfpejeddaaGreatD1
namespace Go.Proofs.YtgicplfpejeddaaGreat
open Go Go.Ev Go.Ev.W
noncomputable section
variable [Tok]
theorem r165 : runsTo (callK Tryz.prog base t165) k165 = true := by kernel_rfl
theorem r166 : runsTo (callK Tryz.prog base t166) k166 = true := by kernel_rfl
theorem r167 : runsTo (callK Tryz.prog base t167) k167 = true := by kernel_rfl
theorem r168 : runsTo (callK Tryz.prog base t168) k168 = true := by kernel_rfl
theorem r169 : runsTo (callK Tryz.prog base t169) k169 = true := by kernel_rfl
theorem r170 : runsTo (callK Tryz.prog base t170) k170 = true := by kernel_rfl
theorem r171 : runsTo (callK Tryz.prog base t171) k171 = true := by kernel_rfl
theorem r172 : runsTo (callK Tryz.prog base t172) k172 = true := by kernel_rfl
theorem r173 : runsTo (callK Tryz.prog base t173) k173 = true := by kernel_rfl
theorem r174 : runsTo (callK Tryz.prog base t174) k174 = true := by kernel_rfl
theorem r175 : runsTo (callK Tryz.prog base t175) k175 = true := by kernel_rfl
theorem r176 : runsTo (callK Tryz.prog base t176) k176 = true := by kernel_rfl
theorem r177 : runsTo (callK Tryz.prog base t177) k177 = true := by kernel_rfl
theorem r178 : runsTo (callK Tryz.prog base t178) k178 = true := by kernel_rfl
theorem r179 : runsTo (callK Tryz.prog base t179) k179 = true := by kernel_rfl
theorem r180 : runsTo (callK Tryz.prog base t180) k180 = true := by kernel_rfl
theorem r181 : runsTo (callK Tryz.prog base t181) k181 = true := by kernel_rfl
theorem r182 : runsTo (callK Tryz.prog base t182) k182 = true := by kernel_rfl
end
end Go.Proofs.YtgicplfpejeddaaGreat
