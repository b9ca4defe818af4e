/-
  NARROWER THAN 'FOR EVERY INPUT', by the rows' own cells (each row's printed sentence says how): GmRuns: loops · GmNil: loops.
  DERIVED. THE GIVEN ROWS OF THIS SEAT. 8 by the template 'for every input the law returns true; each argument reads behind the call as it read before'; 0 by the template 'total and deterministic' (their statements: YtkhhpnngpelfnaaGreatTotals.lean).
  GIVEN WITH THE SEED: the statements are not yours to turn. If you find one false, say at which input.
  Laid BY PROGRAM, IN A SANDBOX (cutbox-rows.mjs): the forced cells as the released guide's own fill.sh prints them over the translation 5685e17ee6ad3295… (all of the seat's roots in one cut). By AI agents, Wed Nov 11 2026. No macro, syntax, notation, axiom, sorry.
-/
import Derived.Test.YtkhhpnngpelfnaaGreatChecked
import GoSem.Claim
import GoSem.ClaimJoined
import GoSem.ClaimMapViews
import Derived.JoinedTies
import Derived.KernelRfl
namespace Go.Proofs.YtkhhpnngpelfnaaGreat
/- THE CELL 'sum', in the pinned program and in every row, IS THE sha256 OF THE DUMP (.gsa) THAT YtkhhpnngpelfnaaGreatProg.lean LOADS. Nothing in Lean hashes anything: it is a label: what it is worth is what the hold of that sum in a sandbox is worth. -/
noncomputable def Tryz.pinned : Pinned := { name := "ytkhhpnngpelfnaagreat", sum := "5685e17ee6ad329558dcdfda849b2e91db1b8d565f60d9af970f8f5680e5fdb2", checked := Tryz.checked }
namespace Rows
def none {H : Type} : Left H := { results := [], args := [] }

/-- 'changelinglaw18.GmRuns': WHATEVER THE INPUT: true; the input reads as it did. -/
def gmRunsSpec : ChangeSpec := { name := "gmRuns", fn := fun _ => fun
  | [d1, d2, d3, d4, d5] => { results := [.lit (.bool true)], args := [d1, d2, d3, d4, d5] }
  | _ => none }
def gmRunsRow : OpenClaim := { program := "ytkhhpnngpelfnaagreat", sum := "5685e17ee6ad329558dcdfda849b2e91db1b8d565f60d9af970f8f5680e5fdb2", func := "changeling/changelinglaw18.GmRuns", spec := "gmRuns", unfollowed := true, recurses := true, loops := true, plainKeys := false, apart := false }
def GmRunsSaid : Prop := gmRunsRow.holds Tryz.pinned (OpenSpec.ofChange gmRunsSpec)

/-- ITS FALSE NEIGHBOUR: 'it returns false'. Refute it at one input. -/
def gmRunsWrong : ChangeSpec := { name := "gmRuns", fn := fun _ => fun
  | [d1, d2, d3, d4, d5] => { results := [.lit (.bool false)], args := [d1, d2, d3, d4, d5] }
  | _ => none }
def GmRunsWrongFalsely : Prop := gmRunsRow.holds Tryz.pinned (OpenSpec.ofChange gmRunsWrong)

/-- 'changelinglaw18.GmMeans': WHATEVER THE INPUT: true; the input reads as it did. -/
def gmMeansSpec : ChangeSpec := { name := "gmMeans", fn := fun _ => fun
  | [d1, d2] => { results := [.lit (.bool true)], args := [d1, d2] }
  | _ => none }
def gmMeansRow : OpenClaim := { program := "ytkhhpnngpelfnaagreat", sum := "5685e17ee6ad329558dcdfda849b2e91db1b8d565f60d9af970f8f5680e5fdb2", func := "changeling/changelinglaw18.GmMeans", spec := "gmMeans", unfollowed := true, recurses := true, plainKeys := false, apart := false }
def GmMeansSaid : Prop := gmMeansRow.holds Tryz.pinned (OpenSpec.ofChange gmMeansSpec)

/-- ITS FALSE NEIGHBOUR: 'it returns false'. Refute it at one input. -/
def gmMeansWrong : ChangeSpec := { name := "gmMeans", fn := fun _ => fun
  | [d1, d2] => { results := [.lit (.bool false)], args := [d1, d2] }
  | _ => none }
def GmMeansWrongFalsely : Prop := gmMeansRow.holds Tryz.pinned (OpenSpec.ofChange gmMeansWrong)

/-- 'changelinglaw18.GmReaches': WHATEVER THE INPUT: true; the input reads as it did. -/
def gmReachesSpec : ChangeSpec := { name := "gmReaches", fn := fun _ => fun
  | [d1, d2] => { results := [.lit (.bool true)], args := [d1, d2] }
  | _ => none }
def gmReachesRow : OpenClaim := { program := "ytkhhpnngpelfnaagreat", sum := "5685e17ee6ad329558dcdfda849b2e91db1b8d565f60d9af970f8f5680e5fdb2", func := "changeling/changelinglaw18.GmReaches", spec := "gmReaches", unfollowed := true, recurses := true, plainKeys := false, apart := false }
def GmReachesSaid : Prop := gmReachesRow.holds Tryz.pinned (OpenSpec.ofChange gmReachesSpec)

/-- ITS FALSE NEIGHBOUR: 'it returns false'. Refute it at one input. -/
def gmReachesWrong : ChangeSpec := { name := "gmReaches", fn := fun _ => fun
  | [d1, d2] => { results := [.lit (.bool false)], args := [d1, d2] }
  | _ => none }
def GmReachesWrongFalsely : Prop := gmReachesRow.holds Tryz.pinned (OpenSpec.ofChange gmReachesWrong)

/-- 'changelinglaw18.GmMore': WHATEVER THE INPUT: true; the input reads as it did. -/
def gmMoreSpec : ChangeSpec := { name := "gmMore", fn := fun _ => fun
  | [d1, d2, d3, d4] => { results := [.lit (.bool true)], args := [d1, d2, d3, d4] }
  | _ => none }
def gmMoreRow : OpenClaim := { program := "ytkhhpnngpelfnaagreat", sum := "5685e17ee6ad329558dcdfda849b2e91db1b8d565f60d9af970f8f5680e5fdb2", func := "changeling/changelinglaw18.GmMore", spec := "gmMore", unfollowed := true, recurses := true, plainKeys := false, apart := false }
def GmMoreSaid : Prop := gmMoreRow.holds Tryz.pinned (OpenSpec.ofChange gmMoreSpec)

/-- ITS FALSE NEIGHBOUR: 'it returns false'. Refute it at one input. -/
def gmMoreWrong : ChangeSpec := { name := "gmMore", fn := fun _ => fun
  | [d1, d2, d3, d4] => { results := [.lit (.bool false)], args := [d1, d2, d3, d4] }
  | _ => none }
def GmMoreWrongFalsely : Prop := gmMoreRow.holds Tryz.pinned (OpenSpec.ofChange gmMoreWrong)

/-- 'changelinglaw18.GmFuel': WHATEVER THE INPUT: true; the input reads as it did. -/
def gmFuelSpec : ChangeSpec := { name := "gmFuel", fn := fun _ => fun
  | [d1, d2, d3] => { results := [.lit (.bool true)], args := [d1, d2, d3] }
  | _ => none }
def gmFuelRow : OpenClaim := { program := "ytkhhpnngpelfnaagreat", sum := "5685e17ee6ad329558dcdfda849b2e91db1b8d565f60d9af970f8f5680e5fdb2", func := "changeling/changelinglaw18.GmFuel", spec := "gmFuel", unfollowed := true, recurses := true, plainKeys := false, apart := false }
def GmFuelSaid : Prop := gmFuelRow.holds Tryz.pinned (OpenSpec.ofChange gmFuelSpec)

/-- ITS FALSE NEIGHBOUR: 'it returns false'. Refute it at one input. -/
def gmFuelWrong : ChangeSpec := { name := "gmFuel", fn := fun _ => fun
  | [d1, d2, d3] => { results := [.lit (.bool false)], args := [d1, d2, d3] }
  | _ => none }
def GmFuelWrongFalsely : Prop := gmFuelRow.holds Tryz.pinned (OpenSpec.ofChange gmFuelWrong)

/-- 'changelinglaw18.GmCollects': WHATEVER THE INPUT: true; the input reads as it did. -/
def gmCollectsSpec : ChangeSpec := { name := "gmCollects", fn := fun _ => fun
  | [d1, d2, d3, d4] => { results := [.lit (.bool true)], args := [d1, d2, d3, d4] }
  | _ => none }
def gmCollectsRow : OpenClaim := { program := "ytkhhpnngpelfnaagreat", sum := "5685e17ee6ad329558dcdfda849b2e91db1b8d565f60d9af970f8f5680e5fdb2", func := "changeling/changelinglaw18.GmCollects", spec := "gmCollects", unfollowed := true, recurses := true, plainKeys := false, apart := false }
def GmCollectsSaid : Prop := gmCollectsRow.holds Tryz.pinned (OpenSpec.ofChange gmCollectsSpec)

/-- ITS FALSE NEIGHBOUR: 'it returns false'. Refute it at one input. -/
def gmCollectsWrong : ChangeSpec := { name := "gmCollects", fn := fun _ => fun
  | [d1, d2, d3, d4] => { results := [.lit (.bool false)], args := [d1, d2, d3, d4] }
  | _ => none }
def GmCollectsWrongFalsely : Prop := gmCollectsRow.holds Tryz.pinned (OpenSpec.ofChange gmCollectsWrong)

/-- 'changelinglaw18.GmSteps': WHATEVER THE INPUT: true; the input reads as it did. -/
def gmStepsSpec : ChangeSpec := { name := "gmSteps", fn := fun _ => fun
  | [d1, d2, d3] => { results := [.lit (.bool true)], args := [d1, d2, d3] }
  | _ => none }
def gmStepsRow : OpenClaim := { program := "ytkhhpnngpelfnaagreat", sum := "5685e17ee6ad329558dcdfda849b2e91db1b8d565f60d9af970f8f5680e5fdb2", func := "changeling/changelinglaw18.GmSteps", spec := "gmSteps", unfollowed := true, recurses := true, plainKeys := false, apart := false }
def GmStepsSaid : Prop := gmStepsRow.holds Tryz.pinned (OpenSpec.ofChange gmStepsSpec)

/-- ITS FALSE NEIGHBOUR: 'it returns false'. Refute it at one input. -/
def gmStepsWrong : ChangeSpec := { name := "gmSteps", fn := fun _ => fun
  | [d1, d2, d3] => { results := [.lit (.bool false)], args := [d1, d2, d3] }
  | _ => none }
def GmStepsWrongFalsely : Prop := gmStepsRow.holds Tryz.pinned (OpenSpec.ofChange gmStepsWrong)

/-- 'changelinglaw18.GmNil': WHATEVER THE INPUT: true; the input reads as it did. -/
def gmNilSpec : ChangeSpec := { name := "gmNil", fn := fun _ => fun
  | [d1, d2, d3] => { results := [.lit (.bool true)], args := [d1, d2, d3] }
  | _ => none }
def gmNilRow : OpenClaim := { program := "ytkhhpnngpelfnaagreat", sum := "5685e17ee6ad329558dcdfda849b2e91db1b8d565f60d9af970f8f5680e5fdb2", func := "changeling/changelinglaw18.GmNil", spec := "gmNil", unfollowed := true, recurses := true, loops := true, plainKeys := false, apart := false }
def GmNilSaid : Prop := gmNilRow.holds Tryz.pinned (OpenSpec.ofChange gmNilSpec)

/-- ITS FALSE NEIGHBOUR: 'it returns false'. Refute it at one input. -/
def gmNilWrong : ChangeSpec := { name := "gmNil", fn := fun _ => fun
  | [d1, d2, d3] => { results := [.lit (.bool false)], args := [d1, d2, d3] }
  | _ => none }
def GmNilWrongFalsely : Prop := gmNilRow.holds Tryz.pinned (OpenSpec.ofChange gmNilWrong)

/- THE SECOND FORM. 'bulk': how many values and letters a reading holds, each counted each time it is reached (what is shared counts as often as it is met; a slice's spare places count too). A statement '..UptoSaid' is the law's where the arguments, and the package variables that the reading takes, are together of bulk at most 1048576: NARROWER than '..Said'. Prove '..Said' where nothing that the law and all that it calls make is longer than what came in: it says more and counts as full. Else prove '..UptoSaid'. A law counts once. -/
mutual
def uptoBulk {H : Type} : DataW H → Nat
  | .lit (.string bytes) => bytes.length + 1
  | .lit _ => 1
  | .nil => 1
  | .ptr d => uptoBulk d + 1
  | .slice elems spare => uptoBulkAll elems + uptoBulkAll spare + 1
  | .agg parts => uptoBulkAll parts + 1
  | .iface _ d => uptoBulk d + 1
  | .map entries => uptoBulkEntries entries + 1
  | .held _ => 1
def uptoBulkAll {H : Type} : List (DataW H) → Nat
  | [] => 0
  | d :: r => uptoBulk d + uptoBulkAll r
def uptoBulkEntries {H : Type} : List (Lit × DataW H) → Nat
  | [] => 0
  | x :: r => uptoBulkEntry x + uptoBulkEntries r
def uptoBulkEntry {H : Type} : Lit × DataW H → Nat
  | (.string bytes, d) => bytes.length + uptoBulk d + 1
  | (_, d) => uptoBulk d + 1
 end
def uptoSmall : (H : Type) → List (DataW H) → Bool := fun _ ds => decide (uptoBulkAll ds ≤ 1048576)
def OpenSpec.upto (s : _root_.Go.ChangeSpec) : _root_.Go.OpenSpec := { _root_.Go.OpenSpec.ofChange s with cond := some uptoSmall }

/-- 'changelinglaw18.GmRuns', WHERE WHAT IT READS IS OF BULK AT MOST 1048576: true; the input reads as it did. -/
def gmRunsUptoRow : OpenClaim := { program := "ytkhhpnngpelfnaagreat", sum := "5685e17ee6ad329558dcdfda849b2e91db1b8d565f60d9af970f8f5680e5fdb2", func := "changeling/changelinglaw18.GmRuns", spec := "gmRuns", unfollowed := true, recurses := true, loops := true, plainKeys := false, apart := false, narrowed := true }
def GmRunsUptoSaid : Prop := gmRunsUptoRow.holds Tryz.pinned (OpenSpec.upto gmRunsSpec)

/-- 'changelinglaw18.GmMeans', WHERE WHAT IT READS IS OF BULK AT MOST 1048576: true; the input reads as it did. -/
def gmMeansUptoRow : OpenClaim := { program := "ytkhhpnngpelfnaagreat", sum := "5685e17ee6ad329558dcdfda849b2e91db1b8d565f60d9af970f8f5680e5fdb2", func := "changeling/changelinglaw18.GmMeans", spec := "gmMeans", unfollowed := true, recurses := true, plainKeys := false, apart := false, narrowed := true }
def GmMeansUptoSaid : Prop := gmMeansUptoRow.holds Tryz.pinned (OpenSpec.upto gmMeansSpec)

/-- 'changelinglaw18.GmReaches', WHERE WHAT IT READS IS OF BULK AT MOST 1048576: true; the input reads as it did. -/
def gmReachesUptoRow : OpenClaim := { program := "ytkhhpnngpelfnaagreat", sum := "5685e17ee6ad329558dcdfda849b2e91db1b8d565f60d9af970f8f5680e5fdb2", func := "changeling/changelinglaw18.GmReaches", spec := "gmReaches", unfollowed := true, recurses := true, plainKeys := false, apart := false, narrowed := true }
def GmReachesUptoSaid : Prop := gmReachesUptoRow.holds Tryz.pinned (OpenSpec.upto gmReachesSpec)

/-- 'changelinglaw18.GmMore', WHERE WHAT IT READS IS OF BULK AT MOST 1048576: true; the input reads as it did. -/
def gmMoreUptoRow : OpenClaim := { program := "ytkhhpnngpelfnaagreat", sum := "5685e17ee6ad329558dcdfda849b2e91db1b8d565f60d9af970f8f5680e5fdb2", func := "changeling/changelinglaw18.GmMore", spec := "gmMore", unfollowed := true, recurses := true, plainKeys := false, apart := false, narrowed := true }
def GmMoreUptoSaid : Prop := gmMoreUptoRow.holds Tryz.pinned (OpenSpec.upto gmMoreSpec)

/-- 'changelinglaw18.GmFuel', WHERE WHAT IT READS IS OF BULK AT MOST 1048576: true; the input reads as it did. -/
def gmFuelUptoRow : OpenClaim := { program := "ytkhhpnngpelfnaagreat", sum := "5685e17ee6ad329558dcdfda849b2e91db1b8d565f60d9af970f8f5680e5fdb2", func := "changeling/changelinglaw18.GmFuel", spec := "gmFuel", unfollowed := true, recurses := true, plainKeys := false, apart := false, narrowed := true }
def GmFuelUptoSaid : Prop := gmFuelUptoRow.holds Tryz.pinned (OpenSpec.upto gmFuelSpec)

/-- 'changelinglaw18.GmCollects', WHERE WHAT IT READS IS OF BULK AT MOST 1048576: true; the input reads as it did. -/
def gmCollectsUptoRow : OpenClaim := { program := "ytkhhpnngpelfnaagreat", sum := "5685e17ee6ad329558dcdfda849b2e91db1b8d565f60d9af970f8f5680e5fdb2", func := "changeling/changelinglaw18.GmCollects", spec := "gmCollects", unfollowed := true, recurses := true, plainKeys := false, apart := false, narrowed := true }
def GmCollectsUptoSaid : Prop := gmCollectsUptoRow.holds Tryz.pinned (OpenSpec.upto gmCollectsSpec)

/-- 'changelinglaw18.GmSteps', WHERE WHAT IT READS IS OF BULK AT MOST 1048576: true; the input reads as it did. -/
def gmStepsUptoRow : OpenClaim := { program := "ytkhhpnngpelfnaagreat", sum := "5685e17ee6ad329558dcdfda849b2e91db1b8d565f60d9af970f8f5680e5fdb2", func := "changeling/changelinglaw18.GmSteps", spec := "gmSteps", unfollowed := true, recurses := true, plainKeys := false, apart := false, narrowed := true }
def GmStepsUptoSaid : Prop := gmStepsUptoRow.holds Tryz.pinned (OpenSpec.upto gmStepsSpec)

/-- 'changelinglaw18.GmNil', WHERE WHAT IT READS IS OF BULK AT MOST 1048576: true; the input reads as it did. -/
def gmNilUptoRow : OpenClaim := { program := "ytkhhpnngpelfnaagreat", sum := "5685e17ee6ad329558dcdfda849b2e91db1b8d565f60d9af970f8f5680e5fdb2", func := "changeling/changelinglaw18.GmNil", spec := "gmNil", unfollowed := true, recurses := true, loops := true, plainKeys := false, apart := false, narrowed := true }
def GmNilUptoSaid : Prop := gmNilUptoRow.holds Tryz.pinned (OpenSpec.upto gmNilSpec)

end Rows
end Go.Proofs.YtkhhpnngpelfnaaGreat
