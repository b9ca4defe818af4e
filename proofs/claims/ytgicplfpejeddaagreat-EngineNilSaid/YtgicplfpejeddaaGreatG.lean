/- EngineNil: what its call tells, for any tests, selector and budget. -/
import Derived.Test.YtgicplfpejeddaaGreatKS
namespace Go.Proofs.YtgicplfpejeddaaGreat
open Go Go.Ev Go.Ev.W
noncomputable section

/-- The call gives true and leaves all as it was. -/
def Gives (v0 : Value) (sel : Int) (y0 y1 y2 y3 : Value) : Prop :=
  ∀ W : World, Calls Tryz.prog 6 #[v0, .int .i64 sel, .agg #[y0, y1, y2, y3]] W fun e w' => e = .returned (.bool true) ∧ Onward W w'

theorem name6 : (Tryz.f6.name == "runtime.NumGoroutine") = false := by kernel_rfl
theorem fun6 : Tryz.prog.funcs[6]? = some Tryz.f6 := by kernel_rfl
theorem body6 : ∃ c, Tryz.f6.body = some c := Option.isSome_iff_exists.1 (by kernel_rfl)

theorem gives_run [Tok] {v0 : Value} {sel : Int} {y0 y1 y2 y3 : Value} : runsTo (callK Tryz.prog base t246)
    ⟨6, [.lit v0, .lit (.int .i64 sel), .agg [.lit y0, .lit y1, .lit y2, .lit y3]], tt, true⟩ = true := by kernel_rfl

theorem gives {v0 : Value} {sel : Int} {y0 y1 y2 y3 : Value} : Gives v0 sel y0 y1 y2 y3 := fun W => by
  letI : Tok := ⟨fun _ => .bool false, fun _ => .inr ⟨false, rfl⟩, [], fun _ h => by cases h⟩
  obtain ⟨c, hc⟩ := body6
  have K := Stage.known s246 (gives_run (v0 := v0) (sel := sel) (y0 := y0) (y1 := y1) (y2 := y2) (y3 := y3))
  refine Tells.calls_true K fun6 hc name6 rfl ?_
  simp [VRL, VR]

end
end Go.Proofs.YtgicplfpejeddaaGreat
