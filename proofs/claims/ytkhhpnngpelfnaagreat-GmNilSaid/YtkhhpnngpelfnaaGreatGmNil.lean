/- GmNil: for every expression, selector and budget the law's call returns true, and each argument reads afterwards as it read before. -/
import Derived.Test.YtkhhpnngpelfnaaGreatRows
import Derived.Test.YtkhhpnngpelfnaaGreatG
import Derived.Test.YtkhhpnngpelfnaaGreatC
import Derived.WalkKit
import Derived.ProofKit
import Derived.OpenShut
import Derived.JoinedOf
namespace Go.Proofs.YtkhhpnngpelfnaaGreat
open Go.ChangeShapes Go.WideShapes Go.ChangeAt Go.RowKit Go.Ev

theorem own : ownKnob Tryz.prog.godebug = none := by kernel_rfl
theorem laid : laidOutB Tryz.prog = true := by kernel_rfl
theorem reads : ∀ t ∈ Tryz.f10.params.toList, Tryz.prog.readableRec t = true ∧ t < Tryz.prog.types.size := by
  rw [Tryz.params10]
  intro t ht
  simp only [List.mem_cons, List.not_mem_nil, or_false] at ht
  rcases ht with rfl | rfl | rfl
  · exact ⟨by kernel_rfl, of_decide_eq_true (by kernel_rfl)⟩
  · exact ⟨by kernel_rfl, of_decide_eq_true (by kernel_rfl)⟩
  · exact ⟨by kernel_rfl, of_decide_eq_true (by kernel_rfl)⟩

theorem cellsE : Tryz.prog.cellsOf 30 = 9 := by kernel_rfl
theorem cellsB : Tryz.prog.cellsOf 32 = 4 := by kernel_rfl
theorem typesB : Tryz.prog.cellTypes Tryz.prog.depth 32 = some [3, 3, 3, 3] := by kernel_rfl

set_option maxRecDepth 100000 in
theorem contract (H : Type) (enc : TypeId × Value → H) (W : World) (base : Nat) (args : Array Value) (ds gs : List (DataW H)) (before : List MemPlace)
    (hval : ∀ (j : Nat) t v, Tryz.f10.params[j]? = some t → args[j]? = some v → Value.okWide Tryz.prog W .any base t v)
    (hW : DataW.Whole enc Tryz.prog Tryz.f10.params.toList Rows.gmNilSpec.vars false W args.toList ds gs before) :
    Calls Tryz.prog 10 args W fun e W' => ∃ v, e = .returned v ∧ Rows.gmNilSpec.post enc Tryz.prog Tryz.f10 false true false false W args v W' := by
  have hW' := hW
  obtain ⟨p, q, hA0, _, _, _, _⟩ := hW'
  have hA : DataW.TrodAll enc Tryz.prog W 0 (fun _ => true) true Tryz.f10.params.toList args.toList ds p := hA0
  rw [Tryz.params10] at hA hval
  obtain ⟨v0, v1, v2, d0, d1, d2, p0, p1, p2, rfl, hds, _, h0, h1, h2⟩ := trodAll_three hA
  obtain ⟨c0, rfl, s0, _⟩ := struct_cells Tryz.underlying30 (hval 0 30 v0 rfl rfl)
  obtain ⟨sel, rfl, _⟩ := open_int Tryz.underlying3 (hval 1 3 v1 rfl rfl) h1
  obtain ⟨c2, rfl, s2, r2⟩ := struct_cells Tryz.underlying32 (hval 2 32 v2 rfl rfl)
  rw [cellsE] at s0
  rw [cellsB] at s2
  obtain ⟨l0⟩ := c0
  obtain ⟨l2⟩ := c2
  match l0, s0 with
  | [x0, x1, x2, x3, x4, x5, x6, x7, x8], _ =>
  match l2, s2 with
  | [y0, y1, y2, y3], _ =>
  obtain ⟨fuel, rfl⟩ := row_int r2 typesB (i := 0) rfl rfl Tryz.underlying3
  obtain ⟨heap, rfl⟩ := row_int r2 typesB (i := 1) rfl rfl Tryz.underlying3
  obtain ⟨stack, rfl⟩ := row_int r2 typesB (i := 2) rfl rfl Tryz.underlying3
  obtain ⟨every, rfl⟩ := row_int r2 typesB (i := 3) rfl rfl Tryz.underlying3
  refine (gives W).mono fun e W' ⟨he, o⟩ => ?_
  refine ⟨_, he, law_post laid reads rfl (fun ds hl => ?_) (by kernel_rfl) Tryz.underlying4 hW o⟩
  rw [Tryz.params10] at hl
  match ds, hl with
  | [a, b, c], _ => rfl

set_option maxRecDepth 100000 in
theorem lifted (os : Os) (started : os.Started) (H : Type) (enc : TypeId × Value → H) :
    ReturnsInHanded {} Tryz.checked os 10 .any (Rows.gmNilSpec.pre6 enc Tryz.prog Tryz.f10 Rows.gmNilRow.domain false) (Rows.gmNilSpec.post enc Tryz.prog Tryz.f10 false true false false) := by
  refine returnsInHanded_of_change (C := Tryz.checked) own started (by kernel_rfl) Tryz.func10
    (ChangeSpec.witness6 (enc := enc) (C := Tryz.checked) false ⟨#[], #[.agg #[.int .i64 0, .string .empty, .int .i64 0, .int .i64 0, .slice none 0 0, .slice none 0 0, .slice none 0 0, .slice none 0 0, .slice none 0 0], .int .i64 0,
      .agg #[.int .i64 0, .int .i64 0, .int .i64 0, .int .i64 0]], []⟩ 8 (by kernel_rfl) (by kernel_rfl) (by kernel_rfl) (by kernel_rfl)) ?_
  intro W base args ds gs before hval hW _ _
  exact contract H enc W base args ds gs before hval hW

theorem over : Rows.gmNilRow.holds Tryz.pinned (OpenSpec.ofChange Rows.gmNilSpec) :=
  OpenClaim.holds_of_wide 10 Tryz.f10 rfl rfl rfl rfl rfl rfl rfl ⟨rfl, rfl, rfl, rfl, rfl⟩ rfl rfl rfl rfl rfl (by kernel_rfl) Tryz.func10 closed
    (of_decide_eq_true (by kernel_rfl)) (by unfold Func.isWrapper; first | (rw [if_pos (by decide +kernel)]; kernel_rfl) | (rw [if_neg (by decide +kernel)]; exact ⟨rfl, rfl⟩))
    (fun os started H enc _ => lifted os started H enc)

theorem gmNil_holds : Rows.GmNilSaid := over
end Go.Proofs.YtkhhpnngpelfnaaGreat
