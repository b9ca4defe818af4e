import Derived.Test.YtgicplfpejeddaaGreatD1
namespace Go.Proofs.YtgicplfpejeddaaGreat
open Go Go.Ev Go.Ev.W
noncomputable section
variable [Tok]
theorem r40 : runsTo (callK Tryz.prog base t40) k40 = true := by kernel_rfl
theorem r41 : runsTo (callK Tryz.prog base t41) k41 = true := by kernel_rfl
theorem r42 : runsTo (callK Tryz.prog base t42) k42 = true := by kernel_rfl
theorem r43 : runsTo (callK Tryz.prog base t43) k43 = true := by kernel_rfl
theorem r44 : runsTo (callK Tryz.prog base t44) k44 = true := by kernel_rfl
theorem r45 : runsTo (callK Tryz.prog base t45) k45 = true := by kernel_rfl
theorem r46 : runsTo (callK Tryz.prog base t46) k46 = true := by kernel_rfl
theorem r47 : runsTo (callK Tryz.prog base t47) k47 = true := by kernel_rfl
theorem r48 : runsTo (callK Tryz.prog base t48) k48 = true := by kernel_rfl
theorem r49 : runsTo (callK Tryz.prog base t49) k49 = true := by kernel_rfl
theorem r50 : runsTo (callK Tryz.prog base t50) k50 = true := by kernel_rfl
theorem r51 : runsTo (callK Tryz.prog base t51) k51 = true := by kernel_rfl
theorem r52 : runsTo (callK Tryz.prog base t52) k52 = true := by kernel_rfl
theorem r53 : runsTo (callK Tryz.prog base t53) k53 = true := by kernel_rfl
theorem r54 : runsTo (callK Tryz.prog base t54) k54 = true := by kernel_rfl
theorem r55 : runsTo (callK Tryz.prog base t55) k55 = true := by kernel_rfl
theorem r56 : runsTo (callK Tryz.prog base t56) k56 = true := by kernel_rfl
theorem r57 : runsTo (callK Tryz.prog base t57) k57 = true := by kernel_rfl
theorem r58 : runsTo (callK Tryz.prog base t58) k58 = true := by kernel_rfl
end
end Go.Proofs.YtgicplfpejeddaaGreat
