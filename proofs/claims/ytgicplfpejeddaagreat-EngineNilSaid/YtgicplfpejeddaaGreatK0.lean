import Derived.Test.YtgicplfpejeddaaGreatD1
namespace Go.Proofs.YtgicplfpejeddaaGreat
open Go Go.Ev Go.Ev.W
noncomputable section
variable [Tok]
theorem r0 : runsTo (callK Tryz.prog base t0) k0 = true := by kernel_rfl
theorem r1 : runsTo (callK Tryz.prog base t1) k1 = true := by kernel_rfl
theorem r2 : runsTo (callK Tryz.prog base t2) k2 = true := by kernel_rfl
theorem r3 : runsTo (callK Tryz.prog base t3) k3 = true := by kernel_rfl
theorem r4 : runsTo (callK Tryz.prog base t4) k4 = true := by kernel_rfl
theorem r5 : runsTo (callK Tryz.prog base t5) k5 = true := by kernel_rfl
theorem r6 : runsTo (callK Tryz.prog base t6) k6 = true := by kernel_rfl
theorem r7 : runsTo (callK Tryz.prog base t7) k7 = true := by kernel_rfl
theorem r8 : runsTo (callK Tryz.prog base t8) k8 = true := by kernel_rfl
theorem r9 : runsTo (callK Tryz.prog base t9) k9 = true := by kernel_rfl
theorem r10 : runsTo (callK Tryz.prog base t10) k10 = true := by kernel_rfl
theorem r11 : runsTo (callK Tryz.prog base t11) k11 = true := by kernel_rfl
theorem r12 : runsTo (callK Tryz.prog base t12) k12 = true := by kernel_rfl
theorem r13 : runsTo (callK Tryz.prog base t13) k13 = true := by kernel_rfl
theorem r14 : runsTo (callK Tryz.prog base t14) k14 = true := by kernel_rfl
theorem r15 : runsTo (callK Tryz.prog base t15) k15 = true := by kernel_rfl
theorem r16 : runsTo (callK Tryz.prog base t16) k16 = true := by kernel_rfl
theorem r17 : runsTo (callK Tryz.prog base t17) k17 = true := by kernel_rfl
theorem r18 : runsTo (callK Tryz.prog base t18) k18 = true := by kernel_rfl
theorem r19 : runsTo (callK Tryz.prog base t19) k19 = true := by kernel_rfl
theorem r20 : runsTo (callK Tryz.prog base t20) k20 = true := by kernel_rfl
theorem r21 : runsTo (callK Tryz.prog base t21) k21 = true := by kernel_rfl
theorem r22 : runsTo (callK Tryz.prog base t22) k22 = true := by kernel_rfl
theorem r23 : runsTo (callK Tryz.prog base t23) k23 = true := by kernel_rfl
theorem r24 : runsTo (callK Tryz.prog base t24) k24 = true := by kernel_rfl
theorem r25 : runsTo (callK Tryz.prog base t25) k25 = true := by kernel_rfl
theorem r26 : runsTo (callK Tryz.prog base t26) k26 = true := by kernel_rfl
theorem r27 : runsTo (callK Tryz.prog base t27) k27 = true := by kernel_rfl
theorem r28 : runsTo (callK Tryz.prog base t28) k28 = true := by kernel_rfl
theorem r29 : runsTo (callK Tryz.prog base t29) k29 = true := by kernel_rfl
theorem r30 : runsTo (callK Tryz.prog base t30) k30 = true := by kernel_rfl
theorem r31 : runsTo (callK Tryz.prog base t31) k31 = true := by kernel_rfl
theorem r32 : runsTo (callK Tryz.prog base t32) k32 = true := by kernel_rfl
theorem r33 : runsTo (callK Tryz.prog base t33) k33 = true := by kernel_rfl
theorem r34 : runsTo (callK Tryz.prog base t34) k34 = true := by kernel_rfl
theorem r35 : runsTo (callK Tryz.prog base t35) k35 = true := by kernel_rfl
theorem r36 : runsTo (callK Tryz.prog base t36) k36 = true := by kernel_rfl
theorem r37 : runsTo (callK Tryz.prog base t37) k37 = true := by kernel_rfl
theorem r38 : runsTo (callK Tryz.prog base t38) k38 = true := by kernel_rfl
theorem r39 : runsTo (callK Tryz.prog base t39) k39 = true := by kernel_rfl
end
end Go.Proofs.YtgicplfpejeddaaGreat
