/- GmNil: what its call tells, for any budget. -/
import Derived.Test.YtkhhpnngpelfnaaGreatK5
import Derived.Test.YtkhhpnngpelfnaaGreatEv2
namespace Go.Proofs.YtkhhpnngpelfnaaGreat
open Go Go.Ev Go.Ev.W
noncomputable section

/-- A budget's numbers. -/
def vals (fuel heap stack every : Int) : Nat → Value
  | 0 => .int .i64 fuel
  | 1 => .int .i64 heap
  | 2 => .int .i64 stack
  | _ => .int .i64 every

def FactOK (ξ : Nat → Value) (f : Fact) : Prop := ∃ x y v, atomOf ξ f.a = some (.int .i64 x) ∧ atomOf ξ f.b = some (.int .i64 y) ∧ intOp f.op .i64 x y = some v ∧ atomOf ξ f.r = some v

abbrev tokOf (fuel heap stack every : Int) (F : List Fact) (ok : ∀ f ∈ F, FactOK (vals fuel heap stack every) f) : Tok where
  val := vals fuel heap stack every
  one := fun n => by
    left
    match n with
    | 0 => exact ⟨_, _, rfl⟩
    | 1 => exact ⟨_, _, rfl⟩
    | 2 => exact ⟨_, _, rfl⟩
    | _ + 3 => exact ⟨_, _, rfl⟩
  facts := F
  ok := ok

/-- The call gives true and leaves all as it was. -/
def Gives (x0 x1 x2 x3 x4 x5 x6 x7 x8 : Value) (sel fuel heap stack every : Int) : Prop :=
  ∀ W : World, Calls Tryz.prog 10 #[.agg #[x0, x1, x2, x3, x4, x5, x6, x7, x8], .int .i64 sel, .agg #[.int .i64 fuel, .int .i64 heap, .int .i64 stack, .int .i64 every]] W fun e w' => e = .returned (.bool true) ∧ Onward W w'

theorem name10 : (Tryz.f10.name == "runtime.NumGoroutine") = false := by kernel_rfl
theorem fun10 : Tryz.prog.funcs[10]? = some Tryz.f10 := by kernel_rfl
theorem body10 : ∃ c, Tryz.f10.body = some c := Option.isSome_iff_exists.1 (by kernel_rfl)

theorem gives_of {x0 x1 x2 x3 x4 x5 x6 x7 x8 : Value} {sel fuel heap stack every : Int} {F : List Fact} {ok : ∀ f ∈ F, FactOK (vals fuel heap stack every) f}
    (h : @runsTo (@callK (tokOf fuel heap stack every F ok) Tryz.prog (@base) t97)
      ⟨10, [.agg [.lit x0, .lit x1, .lit x2, .lit x3, .lit x4, .lit x5, .lit x6, .lit x7, .lit x8], .lit (.int .i64 sel), .agg [.var 0, .var 1, .var 2, .var 3]], tt, true⟩ = true) :
    Gives x0 x1 x2 x3 x4 x5 x6 x7 x8 sel fuel heap stack every := fun W => by
  letI : Tok := tokOf fuel heap stack every F ok
  obtain ⟨c, hc⟩ := body10
  have K := Stage.known s97 h
  refine Tells.calls_true K fun10 hc name10 rfl ?_
  simp [VRL, VR]
  exact ⟨rfl, rfl, rfl, rfl⟩

theorem gives_heap {x0 x1 x2 x3 x4 x5 x6 x7 x8 : Value} {sel fuel heap stack every : Int} {F : List Fact} {ok : ∀ f ∈ F, FactOK (vals fuel heap stack every) f} {n : Nat} (hn : heap = n)
    (h : @runsTo (@callK (tokOf fuel heap stack every F ok) Tryz.prog (@base) t97)
      ⟨10, [.agg [.lit x0, .lit x1, .lit x2, .lit x3, .lit x4, .lit x5, .lit x6, .lit x7, .lit x8], .lit (.int .i64 sel), .agg [.var 0, i n, .var 2, .var 3]], tt, true⟩ = true) :
    Gives x0 x1 x2 x3 x4 x5 x6 x7 x8 sel fuel heap stack every := fun W => by
  letI : Tok := tokOf fuel heap stack every F ok
  obtain ⟨c, hc⟩ := body10
  have K := Stage.known s97 h
  refine Tells.calls_true K fun10 hc name10 rfl ?_
  simp [VRL, VR, i, hn]
  exact ⟨rfl, rfl, rfl⟩

section
variable {x0 x1 x2 x3 x4 x5 x6 x7 x8 : Value} {sel fuel heap stack every : Int}

theorem path0 (h0 : ¬ fuel ≥ 0) : Gives x0 x1 x2 x3 x4 x5 x6 x7 x8 sel fuel heap stack every :=
  gives_of (F := [⟨.geq, .var 0, i 0, ff⟩])
    (ok := fun f hf => by
    simp only [List.mem_cons, List.not_mem_nil, or_false] at hf
    subst hf
    all_goals (refine ⟨_, _, _, rfl, rfl, rfl, ?_⟩; simp only [atomOf, Option.some.injEq, Value.bool.injEq, Int.ofNat_eq_natCast]; first | exact (decide_eq_true (by omega)).symm | exact (decide_eq_false (by omega)).symm))
    (by kernel_rfl)

theorem path1 (h0 : fuel ≥ 0) (h1 : ¬ fuel ≤ 1099511627776) : Gives x0 x1 x2 x3 x4 x5 x6 x7 x8 sel fuel heap stack every :=
  gives_of (F := [⟨.geq, .var 0, i 0, tt⟩, ⟨.leq, .var 0, i 1099511627776, ff⟩])
    (ok := fun f hf => by
    simp only [List.mem_cons, List.not_mem_nil, or_false] at hf
    rcases hf with rfl | rfl
    all_goals (refine ⟨_, _, _, rfl, rfl, rfl, ?_⟩; simp only [atomOf, Option.some.injEq, Value.bool.injEq, Int.ofNat_eq_natCast]; first | exact (decide_eq_true (by omega)).symm | exact (decide_eq_false (by omega)).symm))
    (by kernel_rfl)

theorem path2 (h0 : fuel ≥ 0) (h1 : fuel ≤ 1099511627776) (h2 : ¬ heap ≥ 1) : Gives x0 x1 x2 x3 x4 x5 x6 x7 x8 sel fuel heap stack every :=
  gives_of (F := [⟨.geq, .var 0, i 0, tt⟩, ⟨.leq, .var 0, i 1099511627776, tt⟩, ⟨.geq, .var 1, i 1, ff⟩])
    (ok := fun f hf => by
    simp only [List.mem_cons, List.not_mem_nil, or_false] at hf
    rcases hf with rfl | rfl | rfl
    all_goals (refine ⟨_, _, _, rfl, rfl, rfl, ?_⟩; simp only [atomOf, Option.some.injEq, Value.bool.injEq, Int.ofNat_eq_natCast]; first | exact (decide_eq_true (by omega)).symm | exact (decide_eq_false (by omega)).symm))
    (by kernel_rfl)

theorem path3 (h0 : fuel ≥ 0) (h1 : fuel ≤ 1099511627776) (h2 : heap ≥ 1) (h3 : ¬ heap ≤ 16777216) : Gives x0 x1 x2 x3 x4 x5 x6 x7 x8 sel fuel heap stack every :=
  gives_of (F := [⟨.geq, .var 0, i 0, tt⟩, ⟨.leq, .var 0, i 1099511627776, tt⟩, ⟨.geq, .var 1, i 1, tt⟩, ⟨.leq, .var 1, i 16777216, ff⟩])
    (ok := fun f hf => by
    simp only [List.mem_cons, List.not_mem_nil, or_false] at hf
    rcases hf with rfl | rfl | rfl | rfl
    all_goals (refine ⟨_, _, _, rfl, rfl, rfl, ?_⟩; simp only [atomOf, Option.some.injEq, Value.bool.injEq, Int.ofNat_eq_natCast]; first | exact (decide_eq_true (by omega)).symm | exact (decide_eq_false (by omega)).symm))
    (by kernel_rfl)

theorem path4 (h0 : fuel ≥ 0) (h1 : fuel ≤ 1099511627776) (h2 : heap ≥ 1) (h3 : heap ≤ 16777216) (h4 : ¬ stack ≥ 1) : Gives x0 x1 x2 x3 x4 x5 x6 x7 x8 sel fuel heap stack every :=
  gives_of (F := [⟨.geq, .var 0, i 0, tt⟩, ⟨.leq, .var 0, i 1099511627776, tt⟩, ⟨.geq, .var 1, i 1, tt⟩, ⟨.leq, .var 1, i 16777216, tt⟩, ⟨.geq, .var 2, i 1, ff⟩])
    (ok := fun f hf => by
    simp only [List.mem_cons, List.not_mem_nil, or_false] at hf
    rcases hf with rfl | rfl | rfl | rfl | rfl
    all_goals (refine ⟨_, _, _, rfl, rfl, rfl, ?_⟩; simp only [atomOf, Option.some.injEq, Value.bool.injEq, Int.ofNat_eq_natCast]; first | exact (decide_eq_true (by omega)).symm | exact (decide_eq_false (by omega)).symm))
    (by kernel_rfl)

theorem path5 (h0 : fuel ≥ 0) (h1 : fuel ≤ 1099511627776) (h2 : heap ≥ 1) (h3 : heap ≤ 16777216) (h4 : stack ≥ 1) (h5 : ¬ stack ≤ 16777216) : Gives x0 x1 x2 x3 x4 x5 x6 x7 x8 sel fuel heap stack every :=
  gives_of (F := [⟨.geq, .var 0, i 0, tt⟩, ⟨.leq, .var 0, i 1099511627776, tt⟩, ⟨.geq, .var 1, i 1, tt⟩, ⟨.leq, .var 1, i 16777216, tt⟩, ⟨.geq, .var 2, i 1, tt⟩, ⟨.leq, .var 2, i 16777216, ff⟩])
    (ok := fun f hf => by
    simp only [List.mem_cons, List.not_mem_nil, or_false] at hf
    rcases hf with rfl | rfl | rfl | rfl | rfl | rfl
    all_goals (refine ⟨_, _, _, rfl, rfl, rfl, ?_⟩; simp only [atomOf, Option.some.injEq, Value.bool.injEq, Int.ofNat_eq_natCast]; first | exact (decide_eq_true (by omega)).symm | exact (decide_eq_false (by omega)).symm))
    (by kernel_rfl)

theorem path6 (h0 : fuel ≥ 0) (h1 : fuel ≤ 1099511627776) (h2 : heap ≥ 1) (h3 : heap ≤ 16777216) (h4 : stack ≥ 1) (h5 : stack ≤ 16777216) (h6 : ¬ every ≥ 0) : Gives x0 x1 x2 x3 x4 x5 x6 x7 x8 sel fuel heap stack every :=
  gives_of (F := [⟨.geq, .var 0, i 0, tt⟩, ⟨.leq, .var 0, i 1099511627776, tt⟩, ⟨.geq, .var 1, i 1, tt⟩, ⟨.leq, .var 1, i 16777216, tt⟩, ⟨.geq, .var 2, i 1, tt⟩, ⟨.leq, .var 2, i 16777216, tt⟩, ⟨.geq, .var 3, i 0, ff⟩])
    (ok := fun f hf => by
    simp only [List.mem_cons, List.not_mem_nil, or_false] at hf
    rcases hf with rfl | rfl | rfl | rfl | rfl | rfl | rfl
    all_goals (refine ⟨_, _, _, rfl, rfl, rfl, ?_⟩; simp only [atomOf, Option.some.injEq, Value.bool.injEq, Int.ofNat_eq_natCast]; first | exact (decide_eq_true (by omega)).symm | exact (decide_eq_false (by omega)).symm))
    (by kernel_rfl)

theorem path7 (h0 : fuel ≥ 0) (h1 : fuel ≤ 1099511627776) (h2 : heap ≥ 1) (h3 : heap ≤ 16777216) (h4 : stack ≥ 1) (h5 : stack ≤ 16777216) (h6 : every ≥ 0) (h7 : heap ≥ 15) : Gives x0 x1 x2 x3 x4 x5 x6 x7 x8 sel fuel heap stack every :=
  gives_of (F := [⟨.geq, .var 0, i 0, tt⟩, ⟨.leq, .var 0, i 1099511627776, tt⟩, ⟨.geq, .var 1, i 1, tt⟩, ⟨.leq, .var 1, i 16777216, tt⟩, ⟨.geq, .var 2, i 1, tt⟩, ⟨.leq, .var 2, i 16777216, tt⟩, ⟨.geq, .var 3, i 0, tt⟩, ⟨.lss, .var 1, i 1, ff⟩, ⟨.gtr, .var 1, i 16777216, ff⟩, ⟨.gtr, .var 1, i 0, tt⟩, ⟨.geq, i 0, .var 1, ff⟩, ⟨.geq, i 1, .var 1, ff⟩, ⟨.geq, i 2, .var 1, ff⟩, ⟨.geq, i 3, .var 1, ff⟩, ⟨.geq, i 4, .var 1, ff⟩, ⟨.geq, i 5, .var 1, ff⟩, ⟨.geq, i 6, .var 1, ff⟩, ⟨.geq, i 7, .var 1, ff⟩, ⟨.geq, i 8, .var 1, ff⟩, ⟨.geq, i 9, .var 1, ff⟩, ⟨.geq, i 10, .var 1, ff⟩, ⟨.geq, i 11, .var 1, ff⟩, ⟨.geq, i 12, .var 1, ff⟩, ⟨.geq, i 13, .var 1, ff⟩, ⟨.geq, i 14, .var 1, ff⟩])
    (ok := fun f hf => by
    simp only [List.mem_cons, List.not_mem_nil, or_false] at hf
    rcases hf with rfl | rfl | rfl | rfl | rfl | rfl | rfl | rfl | rfl | rfl | rfl | rfl | rfl | rfl | rfl | rfl | rfl | rfl | rfl | rfl | rfl | rfl | rfl | rfl | rfl
    all_goals (refine ⟨_, _, _, rfl, rfl, rfl, ?_⟩; simp only [atomOf, Option.some.injEq, Value.bool.injEq, Int.ofNat_eq_natCast]; first | exact (decide_eq_true (by omega)).symm | exact (decide_eq_false (by omega)).symm))
    (by kernel_rfl)

theorem heap1 (h0 : fuel ≥ 0) (h1 : fuel ≤ 1099511627776) (h2 : heap ≥ 1) (h3 : heap ≤ 16777216) (h4 : stack ≥ 1) (h5 : stack ≤ 16777216) (h6 : every ≥ 0) (hn : heap = (1 : Nat)) : Gives x0 x1 x2 x3 x4 x5 x6 x7 x8 sel fuel heap stack every :=
  gives_heap (F := [⟨.geq, .var 0, i 0, tt⟩, ⟨.leq, .var 0, i 1099511627776, tt⟩, ⟨.geq, .var 2, i 1, tt⟩, ⟨.leq, .var 2, i 16777216, tt⟩, ⟨.geq, .var 3, i 0, tt⟩]) hn
    (ok := fun f hf => by
    simp only [List.mem_cons, List.not_mem_nil, or_false] at hf
    rcases hf with rfl | rfl | rfl | rfl | rfl
    all_goals (refine ⟨_, _, _, rfl, rfl, rfl, ?_⟩; simp only [atomOf, Option.some.injEq, Value.bool.injEq, Int.ofNat_eq_natCast]; first | exact (decide_eq_true (by omega)).symm | exact (decide_eq_false (by omega)).symm))
    (by kernel_rfl)

theorem heap2 (h0 : fuel ≥ 0) (h1 : fuel ≤ 1099511627776) (h2 : heap ≥ 1) (h3 : heap ≤ 16777216) (h4 : stack ≥ 1) (h5 : stack ≤ 16777216) (h6 : every ≥ 0) (hn : heap = (2 : Nat)) : Gives x0 x1 x2 x3 x4 x5 x6 x7 x8 sel fuel heap stack every :=
  gives_heap (F := [⟨.geq, .var 0, i 0, tt⟩, ⟨.leq, .var 0, i 1099511627776, tt⟩, ⟨.geq, .var 2, i 1, tt⟩, ⟨.leq, .var 2, i 16777216, tt⟩, ⟨.geq, .var 3, i 0, tt⟩]) hn
    (ok := fun f hf => by
    simp only [List.mem_cons, List.not_mem_nil, or_false] at hf
    rcases hf with rfl | rfl | rfl | rfl | rfl
    all_goals (refine ⟨_, _, _, rfl, rfl, rfl, ?_⟩; simp only [atomOf, Option.some.injEq, Value.bool.injEq, Int.ofNat_eq_natCast]; first | exact (decide_eq_true (by omega)).symm | exact (decide_eq_false (by omega)).symm))
    (by kernel_rfl)

theorem heap3 (h0 : fuel ≥ 0) (h1 : fuel ≤ 1099511627776) (h2 : heap ≥ 1) (h3 : heap ≤ 16777216) (h4 : stack ≥ 1) (h5 : stack ≤ 16777216) (h6 : every ≥ 0) (hn : heap = (3 : Nat)) : Gives x0 x1 x2 x3 x4 x5 x6 x7 x8 sel fuel heap stack every :=
  gives_heap (F := [⟨.geq, .var 0, i 0, tt⟩, ⟨.leq, .var 0, i 1099511627776, tt⟩, ⟨.geq, .var 2, i 1, tt⟩, ⟨.leq, .var 2, i 16777216, tt⟩, ⟨.geq, .var 3, i 0, tt⟩]) hn
    (ok := fun f hf => by
    simp only [List.mem_cons, List.not_mem_nil, or_false] at hf
    rcases hf with rfl | rfl | rfl | rfl | rfl
    all_goals (refine ⟨_, _, _, rfl, rfl, rfl, ?_⟩; simp only [atomOf, Option.some.injEq, Value.bool.injEq, Int.ofNat_eq_natCast]; first | exact (decide_eq_true (by omega)).symm | exact (decide_eq_false (by omega)).symm))
    (by kernel_rfl)

theorem heap4 (h0 : fuel ≥ 0) (h1 : fuel ≤ 1099511627776) (h2 : heap ≥ 1) (h3 : heap ≤ 16777216) (h4 : stack ≥ 1) (h5 : stack ≤ 16777216) (h6 : every ≥ 0) (hn : heap = (4 : Nat)) : Gives x0 x1 x2 x3 x4 x5 x6 x7 x8 sel fuel heap stack every :=
  gives_heap (F := [⟨.geq, .var 0, i 0, tt⟩, ⟨.leq, .var 0, i 1099511627776, tt⟩, ⟨.geq, .var 2, i 1, tt⟩, ⟨.leq, .var 2, i 16777216, tt⟩, ⟨.geq, .var 3, i 0, tt⟩]) hn
    (ok := fun f hf => by
    simp only [List.mem_cons, List.not_mem_nil, or_false] at hf
    rcases hf with rfl | rfl | rfl | rfl | rfl
    all_goals (refine ⟨_, _, _, rfl, rfl, rfl, ?_⟩; simp only [atomOf, Option.some.injEq, Value.bool.injEq, Int.ofNat_eq_natCast]; first | exact (decide_eq_true (by omega)).symm | exact (decide_eq_false (by omega)).symm))
    (by kernel_rfl)

theorem heap5 (h0 : fuel ≥ 0) (h1 : fuel ≤ 1099511627776) (h2 : heap ≥ 1) (h3 : heap ≤ 16777216) (h4 : stack ≥ 1) (h5 : stack ≤ 16777216) (h6 : every ≥ 0) (hn : heap = (5 : Nat)) : Gives x0 x1 x2 x3 x4 x5 x6 x7 x8 sel fuel heap stack every :=
  gives_heap (F := [⟨.geq, .var 0, i 0, tt⟩, ⟨.leq, .var 0, i 1099511627776, tt⟩, ⟨.geq, .var 2, i 1, tt⟩, ⟨.leq, .var 2, i 16777216, tt⟩, ⟨.geq, .var 3, i 0, tt⟩]) hn
    (ok := fun f hf => by
    simp only [List.mem_cons, List.not_mem_nil, or_false] at hf
    rcases hf with rfl | rfl | rfl | rfl | rfl
    all_goals (refine ⟨_, _, _, rfl, rfl, rfl, ?_⟩; simp only [atomOf, Option.some.injEq, Value.bool.injEq, Int.ofNat_eq_natCast]; first | exact (decide_eq_true (by omega)).symm | exact (decide_eq_false (by omega)).symm))
    (by kernel_rfl)

theorem heap6 (h0 : fuel ≥ 0) (h1 : fuel ≤ 1099511627776) (h2 : heap ≥ 1) (h3 : heap ≤ 16777216) (h4 : stack ≥ 1) (h5 : stack ≤ 16777216) (h6 : every ≥ 0) (hn : heap = (6 : Nat)) : Gives x0 x1 x2 x3 x4 x5 x6 x7 x8 sel fuel heap stack every :=
  gives_heap (F := [⟨.geq, .var 0, i 0, tt⟩, ⟨.leq, .var 0, i 1099511627776, tt⟩, ⟨.geq, .var 2, i 1, tt⟩, ⟨.leq, .var 2, i 16777216, tt⟩, ⟨.geq, .var 3, i 0, tt⟩]) hn
    (ok := fun f hf => by
    simp only [List.mem_cons, List.not_mem_nil, or_false] at hf
    rcases hf with rfl | rfl | rfl | rfl | rfl
    all_goals (refine ⟨_, _, _, rfl, rfl, rfl, ?_⟩; simp only [atomOf, Option.some.injEq, Value.bool.injEq, Int.ofNat_eq_natCast]; first | exact (decide_eq_true (by omega)).symm | exact (decide_eq_false (by omega)).symm))
    (by kernel_rfl)

theorem heap7 (h0 : fuel ≥ 0) (h1 : fuel ≤ 1099511627776) (h2 : heap ≥ 1) (h3 : heap ≤ 16777216) (h4 : stack ≥ 1) (h5 : stack ≤ 16777216) (h6 : every ≥ 0) (hn : heap = (7 : Nat)) : Gives x0 x1 x2 x3 x4 x5 x6 x7 x8 sel fuel heap stack every :=
  gives_heap (F := [⟨.geq, .var 0, i 0, tt⟩, ⟨.leq, .var 0, i 1099511627776, tt⟩, ⟨.geq, .var 2, i 1, tt⟩, ⟨.leq, .var 2, i 16777216, tt⟩, ⟨.geq, .var 3, i 0, tt⟩]) hn
    (ok := fun f hf => by
    simp only [List.mem_cons, List.not_mem_nil, or_false] at hf
    rcases hf with rfl | rfl | rfl | rfl | rfl
    all_goals (refine ⟨_, _, _, rfl, rfl, rfl, ?_⟩; simp only [atomOf, Option.some.injEq, Value.bool.injEq, Int.ofNat_eq_natCast]; first | exact (decide_eq_true (by omega)).symm | exact (decide_eq_false (by omega)).symm))
    (by kernel_rfl)

theorem heap8 (h0 : fuel ≥ 0) (h1 : fuel ≤ 1099511627776) (h2 : heap ≥ 1) (h3 : heap ≤ 16777216) (h4 : stack ≥ 1) (h5 : stack ≤ 16777216) (h6 : every ≥ 0) (hn : heap = (8 : Nat)) : Gives x0 x1 x2 x3 x4 x5 x6 x7 x8 sel fuel heap stack every :=
  gives_heap (F := [⟨.geq, .var 0, i 0, tt⟩, ⟨.leq, .var 0, i 1099511627776, tt⟩, ⟨.geq, .var 2, i 1, tt⟩, ⟨.leq, .var 2, i 16777216, tt⟩, ⟨.geq, .var 3, i 0, tt⟩]) hn
    (ok := fun f hf => by
    simp only [List.mem_cons, List.not_mem_nil, or_false] at hf
    rcases hf with rfl | rfl | rfl | rfl | rfl
    all_goals (refine ⟨_, _, _, rfl, rfl, rfl, ?_⟩; simp only [atomOf, Option.some.injEq, Value.bool.injEq, Int.ofNat_eq_natCast]; first | exact (decide_eq_true (by omega)).symm | exact (decide_eq_false (by omega)).symm))
    (by kernel_rfl)

theorem heap9 (h0 : fuel ≥ 0) (h1 : fuel ≤ 1099511627776) (h2 : heap ≥ 1) (h3 : heap ≤ 16777216) (h4 : stack ≥ 1) (h5 : stack ≤ 16777216) (h6 : every ≥ 0) (hn : heap = (9 : Nat)) : Gives x0 x1 x2 x3 x4 x5 x6 x7 x8 sel fuel heap stack every :=
  gives_heap (F := [⟨.geq, .var 0, i 0, tt⟩, ⟨.leq, .var 0, i 1099511627776, tt⟩, ⟨.geq, .var 2, i 1, tt⟩, ⟨.leq, .var 2, i 16777216, tt⟩, ⟨.geq, .var 3, i 0, tt⟩]) hn
    (ok := fun f hf => by
    simp only [List.mem_cons, List.not_mem_nil, or_false] at hf
    rcases hf with rfl | rfl | rfl | rfl | rfl
    all_goals (refine ⟨_, _, _, rfl, rfl, rfl, ?_⟩; simp only [atomOf, Option.some.injEq, Value.bool.injEq, Int.ofNat_eq_natCast]; first | exact (decide_eq_true (by omega)).symm | exact (decide_eq_false (by omega)).symm))
    (by kernel_rfl)

theorem heap10 (h0 : fuel ≥ 0) (h1 : fuel ≤ 1099511627776) (h2 : heap ≥ 1) (h3 : heap ≤ 16777216) (h4 : stack ≥ 1) (h5 : stack ≤ 16777216) (h6 : every ≥ 0) (hn : heap = (10 : Nat)) : Gives x0 x1 x2 x3 x4 x5 x6 x7 x8 sel fuel heap stack every :=
  gives_heap (F := [⟨.geq, .var 0, i 0, tt⟩, ⟨.leq, .var 0, i 1099511627776, tt⟩, ⟨.geq, .var 2, i 1, tt⟩, ⟨.leq, .var 2, i 16777216, tt⟩, ⟨.geq, .var 3, i 0, tt⟩]) hn
    (ok := fun f hf => by
    simp only [List.mem_cons, List.not_mem_nil, or_false] at hf
    rcases hf with rfl | rfl | rfl | rfl | rfl
    all_goals (refine ⟨_, _, _, rfl, rfl, rfl, ?_⟩; simp only [atomOf, Option.some.injEq, Value.bool.injEq, Int.ofNat_eq_natCast]; first | exact (decide_eq_true (by omega)).symm | exact (decide_eq_false (by omega)).symm))
    (by kernel_rfl)

theorem heap11 (h0 : fuel ≥ 0) (h1 : fuel ≤ 1099511627776) (h2 : heap ≥ 1) (h3 : heap ≤ 16777216) (h4 : stack ≥ 1) (h5 : stack ≤ 16777216) (h6 : every ≥ 0) (hn : heap = (11 : Nat)) : Gives x0 x1 x2 x3 x4 x5 x6 x7 x8 sel fuel heap stack every :=
  gives_heap (F := [⟨.geq, .var 0, i 0, tt⟩, ⟨.leq, .var 0, i 1099511627776, tt⟩, ⟨.geq, .var 2, i 1, tt⟩, ⟨.leq, .var 2, i 16777216, tt⟩, ⟨.geq, .var 3, i 0, tt⟩]) hn
    (ok := fun f hf => by
    simp only [List.mem_cons, List.not_mem_nil, or_false] at hf
    rcases hf with rfl | rfl | rfl | rfl | rfl
    all_goals (refine ⟨_, _, _, rfl, rfl, rfl, ?_⟩; simp only [atomOf, Option.some.injEq, Value.bool.injEq, Int.ofNat_eq_natCast]; first | exact (decide_eq_true (by omega)).symm | exact (decide_eq_false (by omega)).symm))
    (by kernel_rfl)

theorem heap12 (h0 : fuel ≥ 0) (h1 : fuel ≤ 1099511627776) (h2 : heap ≥ 1) (h3 : heap ≤ 16777216) (h4 : stack ≥ 1) (h5 : stack ≤ 16777216) (h6 : every ≥ 0) (hn : heap = (12 : Nat)) : Gives x0 x1 x2 x3 x4 x5 x6 x7 x8 sel fuel heap stack every :=
  gives_heap (F := [⟨.geq, .var 0, i 0, tt⟩, ⟨.leq, .var 0, i 1099511627776, tt⟩, ⟨.geq, .var 2, i 1, tt⟩, ⟨.leq, .var 2, i 16777216, tt⟩, ⟨.geq, .var 3, i 0, tt⟩]) hn
    (ok := fun f hf => by
    simp only [List.mem_cons, List.not_mem_nil, or_false] at hf
    rcases hf with rfl | rfl | rfl | rfl | rfl
    all_goals (refine ⟨_, _, _, rfl, rfl, rfl, ?_⟩; simp only [atomOf, Option.some.injEq, Value.bool.injEq, Int.ofNat_eq_natCast]; first | exact (decide_eq_true (by omega)).symm | exact (decide_eq_false (by omega)).symm))
    (by kernel_rfl)

theorem heap13 (h0 : fuel ≥ 0) (h1 : fuel ≤ 1099511627776) (h2 : heap ≥ 1) (h3 : heap ≤ 16777216) (h4 : stack ≥ 1) (h5 : stack ≤ 16777216) (h6 : every ≥ 0) (hn : heap = (13 : Nat)) : Gives x0 x1 x2 x3 x4 x5 x6 x7 x8 sel fuel heap stack every :=
  gives_heap (F := [⟨.geq, .var 0, i 0, tt⟩, ⟨.leq, .var 0, i 1099511627776, tt⟩, ⟨.geq, .var 2, i 1, tt⟩, ⟨.leq, .var 2, i 16777216, tt⟩, ⟨.geq, .var 3, i 0, tt⟩]) hn
    (ok := fun f hf => by
    simp only [List.mem_cons, List.not_mem_nil, or_false] at hf
    rcases hf with rfl | rfl | rfl | rfl | rfl
    all_goals (refine ⟨_, _, _, rfl, rfl, rfl, ?_⟩; simp only [atomOf, Option.some.injEq, Value.bool.injEq, Int.ofNat_eq_natCast]; first | exact (decide_eq_true (by omega)).symm | exact (decide_eq_false (by omega)).symm))
    (by kernel_rfl)

theorem heap14 (h0 : fuel ≥ 0) (h1 : fuel ≤ 1099511627776) (h2 : heap ≥ 1) (h3 : heap ≤ 16777216) (h4 : stack ≥ 1) (h5 : stack ≤ 16777216) (h6 : every ≥ 0) (hn : heap = (14 : Nat)) : Gives x0 x1 x2 x3 x4 x5 x6 x7 x8 sel fuel heap stack every :=
  gives_heap (F := [⟨.geq, .var 0, i 0, tt⟩, ⟨.leq, .var 0, i 1099511627776, tt⟩, ⟨.geq, .var 2, i 1, tt⟩, ⟨.leq, .var 2, i 16777216, tt⟩, ⟨.geq, .var 3, i 0, tt⟩]) hn
    (ok := fun f hf => by
    simp only [List.mem_cons, List.not_mem_nil, or_false] at hf
    rcases hf with rfl | rfl | rfl | rfl | rfl
    all_goals (refine ⟨_, _, _, rfl, rfl, rfl, ?_⟩; simp only [atomOf, Option.some.injEq, Value.bool.injEq, Int.ofNat_eq_natCast]; first | exact (decide_eq_true (by omega)).symm | exact (decide_eq_false (by omega)).symm))
    (by kernel_rfl)

theorem gives : Gives x0 x1 x2 x3 x4 x5 x6 x7 x8 sel fuel heap stack every := by
  by_cases h0 : fuel ≥ 0
  rotate_left
  · exact path0 h0
  by_cases h1 : fuel ≤ 1099511627776
  rotate_left
  · exact path1 h0 h1
  by_cases h2 : heap ≥ 1
  rotate_left
  · exact path2 h0 h1 h2
  by_cases h3 : heap ≤ 16777216
  rotate_left
  · exact path3 h0 h1 h2 h3
  by_cases h4 : stack ≥ 1
  rotate_left
  · exact path4 h0 h1 h2 h3 h4
  by_cases h5 : stack ≤ 16777216
  rotate_left
  · exact path5 h0 h1 h2 h3 h4 h5
  by_cases h6 : every ≥ 0
  rotate_left
  · exact path6 h0 h1 h2 h3 h4 h5 h6
  by_cases h7 : heap ≥ 15
  · exact path7 h0 h1 h2 h3 h4 h5 h6 h7
  obtain ⟨n, hn⟩ : ∃ n : Nat, heap = n := ⟨heap.toNat, by omega⟩
  have hl : n < 15 := by omega
  have hg : 1 ≤ n := by omega
  match n, hn, hl, hg with
  | 1, hn, _, _ => exact heap1 h0 h1 h2 h3 h4 h5 h6 hn
  | 2, hn, _, _ => exact heap2 h0 h1 h2 h3 h4 h5 h6 hn
  | 3, hn, _, _ => exact heap3 h0 h1 h2 h3 h4 h5 h6 hn
  | 4, hn, _, _ => exact heap4 h0 h1 h2 h3 h4 h5 h6 hn
  | 5, hn, _, _ => exact heap5 h0 h1 h2 h3 h4 h5 h6 hn
  | 6, hn, _, _ => exact heap6 h0 h1 h2 h3 h4 h5 h6 hn
  | 7, hn, _, _ => exact heap7 h0 h1 h2 h3 h4 h5 h6 hn
  | 8, hn, _, _ => exact heap8 h0 h1 h2 h3 h4 h5 h6 hn
  | 9, hn, _, _ => exact heap9 h0 h1 h2 h3 h4 h5 h6 hn
  | 10, hn, _, _ => exact heap10 h0 h1 h2 h3 h4 h5 h6 hn
  | 11, hn, _, _ => exact heap11 h0 h1 h2 h3 h4 h5 h6 hn
  | 12, hn, _, _ => exact heap12 h0 h1 h2 h3 h4 h5 h6 hn
  | 13, hn, _, _ => exact heap13 h0 h1 h2 h3 h4 h5 h6 hn
  | 14, hn, _, _ => exact heap14 h0 h1 h2 h3 h4 h5 h6 hn
  | n + 15, _, hl, _ => omega

end
end
end Go.Proofs.YtkhhpnngpelfnaaGreat
