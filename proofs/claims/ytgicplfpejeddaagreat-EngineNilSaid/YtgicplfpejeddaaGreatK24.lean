import Derived.Test.YtgicplfpejeddaaGreatD1
namespace Go.Proofs.YtgicplfpejeddaaGreat
open Go Go.Ev Go.Ev.W
noncomputable section
variable [Tok]
theorem r205 : runsTo (callK Tryz.prog base t205) k205 = true := by kernel_rfl
theorem r206 : runsTo (callK Tryz.prog base t206) k206 = true := by kernel_rfl
theorem r207 : runsTo (callK Tryz.prog base t207) k207 = true := by kernel_rfl
theorem r208 : runsTo (callK Tryz.prog base t208) k208 = true := by kernel_rfl
theorem r209 : runsTo (callK Tryz.prog base t209) k209 = true := by kernel_rfl
theorem r210 : runsTo (callK Tryz.prog base t210) k210 = true := by kernel_rfl
theorem r211 : runsTo (callK Tryz.prog base t211) k211 = true := by kernel_rfl
theorem r212 : runsTo (callK Tryz.prog base t212) k212 = true := by kernel_rfl
theorem r213 : runsTo (callK Tryz.prog base t213) k213 = true := by kernel_rfl
theorem r214 : runsTo (callK Tryz.prog base t214) k214 = true := by kernel_rfl
theorem r215 : runsTo (callK Tryz.prog base t215) k215 = true := by kernel_rfl
theorem r216 : runsTo (callK Tryz.prog base t216) k216 = true := by kernel_rfl
end
end Go.Proofs.YtgicplfpejeddaaGreat
