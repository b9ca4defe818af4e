import Derived.Test.YtgicplfpejeddaaGreatEv0
import Derived.Laws.World
import Derived.Deep.Upon
import Derived.Lib.UnsafeStr
import Derived.Scope
import Derived.LoopN
import Derived.Orders
/- What makes a value out of parts, and what makes a block. -/
namespace Go.Ev
open Go
noncomputable section
variable [Tok]

section
variable {P : Program} {σ : St} {φ : Place} {A : Nat → Prop} {w : World} {ρ : Env} {a : Act}

omit [Tok] in
theorem zipIdx_foldl (l : List Value) (off : Nat) : ∀ (arr : Array Value) (k : Nat), ((l.zipIdx k).foldl (fun cs (p : Value × Nat) => cs.setIfInBounds (off + p.2) p.1) arr) = wr arr (off + k) l := by
  induction l with
  | nil => intro arr k; rfl
  | cons v r ih =>
    intro arr k
    simp only [List.zipIdx_cons, List.foldl_cons, wr]
    rw [ih]
    rfl

omit [Tok] in
theorem fill_step (v : Value) (off : Nat) (arr : Array Value) :
    (v.cells.zipIdx.foldl (fun cs (p : Value × Nat) => cs.setIfInBounds (off + p.2) p.1) arr) = wr arr off v.cells.toList := by
  rw [← Array.foldl_toList]
  have := zipIdx_foldl v.cells.toList off arr 0
  simpa using this

/-- Parts and their values. -/
def PR (φ : Place) (A : Nat → Prop) (h : Array Obj) : List (Nat × AV) → List (Nat × Value) → Prop
  | [], [] => True
  | (i, x) :: r, (j, v) :: s => i = j ∧ VR φ A h x v ∧ PR φ A h r s
  | _, _ => False

theorem evParts_sound (hρ : ER φ A w.heap ρ a) : ∀ (l : List (Nat × Operand)) (ps : List (Nat × AV)), evParts ρ l = some ps → PR φ A w.heap ps (l.map fun p => (p.1, a.eval p.2))
  | [], ps, h => by simp [evParts] at h; subst h; trivial
  | (i, x) :: r, ps, h => by
    simp only [evParts] at h
    split at h
    · rename_i v vs h1 h2
      cases h
      exact ⟨rfl, ev_sound hρ h1, evParts_sound hρ r vs h2⟩
    · cases h

theorem fill_sound (place : Nat → Option (Nat × Nat)) : ∀ (ps : List (Nat × AV)) (cps : List (Nat × Value)) (cells : List AV) (arr : Array Value) (out : List AV),
    PR φ A w.heap ps cps → arr.size = cells.length → VRL φ A w.heap cells (fun i => arr[i]?) → fillAV place cells ps = some out →
    ∃ arr', Instr.fill place arr cps = some arr' ∧ arr'.size = out.length ∧ VRL φ A w.heap out (fun i => arr'[i]?)
  | [], [], cells, arr, out, _, hs, hl, h => by
    simp [fillAV] at h; subst h
    exact ⟨arr, by simp [Instr.fill], hs, hl⟩
  | (i, x) :: ps, (j, v) :: cps, cells, arr, out, hp, hs, hl, h => by
    obtain ⟨rfl, hx, hp⟩ := hp
    obtain ⟨c1, c2⟩ := VR.cells hx
    simp only [fillAV] at h
    split at h
    · cases h
    · rename_i off size hpl
      obtain ⟨hb, h⟩ := bif_bind h
      simp only [Bool.and_eq_true, nbeq, nble, decide_eq_true_eq] at hb
      obtain ⟨b1, b2⟩ := hb
      have hvs : v.cells.toList.length = x.cells.length := by simpa using c1
      obtain ⟨arr', h1, h2, h3⟩ := fill_sound place ps cps (cells.take off ++ (x.cells ++ cells.drop (off + size))) (wr arr off v.cells.toList) out hp
        (by rw [wr_size]; simp; omega)
        (by
          refine VRL.of _ _ fun k y hy => ?_
          rw [wr_get _ _ _ _ (by rw [hvs]; omega), hvs]
          rw [List.getElem?_append] at hy
          simp only [List.length_take] at hy
          split at hy
          · rename_i hk
            rw [List.getElem?_take] at hy
            split at hy
            · rw [if_neg (by omega)]
              exact VRL.get _ _ hl k y hy
            · cases hy
          · rename_i hk
            rw [List.getElem?_append] at hy
            split at hy
            · rename_i hk2
              rw [if_pos (by omega)]
              obtain ⟨u, h4, h5⟩ := VRL.get _ _ c2 _ _ hy
              refine ⟨u, ?_, h5⟩
              have : k - min off cells.length = k - off := by omega
              rw [this] at h4
              simpa using h4
            · rename_i hk2
              rw [List.getElem?_drop] at hy
              rw [if_neg (by omega)]
              have : off + size + (k - min off cells.length - x.cells.length) = k := by omega
              rw [this] at hy
              exact VRL.get _ _ hl k y hy)
        h
      refine ⟨arr', ?_, h2, h3⟩
      simp only [Instr.fill, hpl]
      rw [if_neg (by simp; omega)]
      rw [← h1]
      congr 1
      exact fill_step v off arr
  | [], _ :: _, _, _, _, hp, _, _, _ => hp.elim
  | _ :: _, [], _, _, _, hp, _, _, _ => hp.elim

theorem zeroOf_run {t : TypeId} {zs : List AV} (h : zeroOf P t = some zs) : ∃ z, (∀ w, (zeroValue t).run P w = .ok z w) ∧ z.cells.size = zs.length ∧ ∀ φ A h, VRL φ A h zs (fun i => z.cells[i]?) := by
  unfold zeroOf at h
  simp only [Option.map_eq_some_iff, Option.bind_eq_some_iff] at h
  obtain ⟨z, ⟨i, h1, h2⟩, rfl⟩ := h
  refine ⟨z, fun w => ?_, ?_, fun φ A h => ?_⟩
  · unfold zeroValue; simp [run_typeInfo w h1, h2]
  · exact (VR.cells (φ := fun _ => none) (A := fun _ => False) (h := #[]) (x := .lit z) (v := z) (by simp only [VR])).1
  · exact (VR.cells (φ := φ) (A := A) (h := h) (x := .lit z) (v := z) (by simp only [VR])).2

omit [Tok] in
theorem mapM_sizes (fields : List Field) (h : fields.all (fun f => (sizeOfP P f.type).isSome) = true) (w : World) :
    (fields.mapM (fun f => do pure (f.offset, ← sizeOf f.type) : Field → Sem (Nat × Nat))).run P w = .ok (fields.map fun f => (f.offset, (sizeOfP P f.type).getD 0)) w := by
  induction fields with
  | nil => rfl
  | cons f r ih =>
    simp only [List.all_cons, Bool.and_eq_true] at h
    obtain ⟨n, hn⟩ := Option.isSome_iff_exists.1 h.1
    simp only [List.mapM_cons, Sem.run_bind, sizeOfP_run hn, Result.andThen_ok, Sem.run_pure, ih h.2, List.map_cons, hn, Option.getD_some]

theorem build_sound (hρ : ER φ A w.heap ρ a) {t : TypeId} {parts : Array (Nat × Operand)} {x : AV} (h : buildAV P ρ t parts.toList = some x) :
    ∃ v, (Instr.build t (parts.map fun (i, x) => (i, a.eval x))).run P w = .ok v w ∧ VR φ A w.heap x v := by
  unfold buildAV at h
  split at h
  · rename_i zero ps hz hps
    obtain ⟨z, hz1, hz2, hz3⟩ := zeroOf_run hz
    have hp := evParts_sound hρ _ _ hps
    have hpl : (parts.map fun (i, x) => (i, a.eval x)).toList = parts.toList.map fun p => (p.1, a.eval p.2) := by simp
    split at h
    · rename_i fields hu
      obtain ⟨hb, h⟩ := bif_bind h
      simp only [Option.map_eq_some_iff] at h
      obtain ⟨out, h1, rfl⟩ := h
      obtain ⟨arr', h2, h3, h4⟩ := fill_sound _ ps _ zero z.cells out hp hz2 (hz3 φ A w.heap) h1
      refine ⟨.agg arr', ?_, by simp only [VR]; exact ⟨arr', rfl, h3, h4⟩⟩
      unfold Instr.build
      simp only [Sem.run_bind, hz1, Result.andThen_ok, run_underlying hu]
      rw [Array.mapM_eq_mapM_toList]
      simp only [Sem.run_map, mapM_sizes _ hb w, Result.andThen_ok]
      rw [hpl]
      have hpe : (fun (i : Nat) => ((fields.toList.map fun (f : Field) => (f.offset, (sizeOfP P f.type).getD 0)).toArray)[i]?) = fun (i : Nat) => (fields[i]?).bind fun (f : Field) => (sizeOfP P f.type).map fun n => (f.offset, n) := by
        funext i
        simp only [List.getElem?_toArray, List.getElem?_map, Array.getElem?_toList]
        cases hf : fields[i]? with
        | none => rfl
        | some f =>
          rw [List.all_eq_true] at hb
          have := hb f (by rw [Array.mem_toList_iff]; exact Array.mem_of_getElem? hf)
          obtain ⟨n, hn⟩ := Option.isSome_iff_exists.1 this
          simp [hn]
      rw [hpe, h2]
      rfl
    · rename_i m e hu
      split at h
      · rename_i k hk
        simp only [Option.map_eq_some_iff] at h
        obtain ⟨out, h1, rfl⟩ := h
        obtain ⟨arr', h2, h3, h4⟩ := fill_sound _ ps _ zero z.cells out hp hz2 (hz3 φ A w.heap) h1
        refine ⟨.agg arr', ?_, by simp only [VR]; exact ⟨arr', rfl, h3, h4⟩⟩
        unfold Instr.build
        simp only [Sem.run_bind, hz1, Result.andThen_ok, run_underlying hu, sizeOfP_run hk]
        rw [hpl, h2]
        rfl
      · cases h
    · cases h
  · cases h
end
end
end Go.Ev
/- What makes a block. -/
namespace Go.Ev
open Go
noncomputable section
variable [Tok]

section
variable {P : Program} {σ : St} {φ : Place} {A : Nat → Prop} {w : World} {ρ : Env} {a : Act}

omit [Tok] in
theorem trOf_get (l : List AV) (i : Nat) : (trOf l).get i = l[i]? := by
  unfold trOf
  rw [setCells_get]
  by_cases h : i < l.length
  · rw [if_pos ⟨Nat.zero_le _, by omega⟩, Nat.sub_zero]
  · rw [if_neg (by omega), Tr.get_nil, List.getElem?_eq_none (by omega)]

/-- A new entry and its object. -/
structure NewOk (φ : Place) (A : Nat → Prop) (h : Array Obj) (e : Ent) (o : Obj) : Prop where
  fam : ∀ x, e ≠ .fam x
  grp : ∀ ty n t g tip ex, e = .cells ty n t (some g) tip ex → False
  row : ∀ ty n t g tip ex, e = .cells ty n t g tip ex → ∃ arr : Array Value, o = Obj.cells arr ty (0, 0) ∧ n ≤ arr.size ∧ (ex = true → n = arr.size) ∧
      ∀ i x, i < n → t.get i = some x → ∃ v, arr[i]? = some v ∧ VR φ A h x v
  mp : ∀ k es, e = .mp k es → OR φ A h k es o

theorem NewOk.cells {φ : Place} {A : Nat → Prop} {h : Array Obj} {ty : TypeId} {cs : List AV} {arr : Array Value} {ex : Bool} (hs : arr.size = cs.length) (hl : VRL φ A h cs (fun i => arr[i]?)) :
    NewOk φ A h (.cells ty cs.length (trOf cs) none true ex) (Obj.cells arr ty (0, 0)) where
  fam := fun x he => by cases he
  grp := fun _ _ _ _ _ _ he => by cases he
  row := fun ty n t g tip ex he => by
    cases he
    refine ⟨arr, rfl, by omega, fun _ => hs.symm, fun i x hi hx => ?_⟩
    rw [trOf_get] at hx
    exact VRL.get _ _ hl i x hx
  mp := fun k es he => by cases he

theorem NewOk.map {φ : Place} {A : Nat → Prop} {h : Array Obj} : NewOk φ A h (.mp none []) (Obj.map #[] 0) where
  fam := fun x he => by cases he
  grp := fun _ _ _ _ _ _ he => by cases he
  row := fun _ _ _ _ _ _ he => by cases he
  mp := fun k es he => by cases he; exact ⟨rfl, trivial⟩

theorem NewOk.chan {φ : Place} {A : Nat → Prop} {h : Array Obj} {n : Nat} : NewOk φ A h (.mp (some n) []) (Obj.chan n #[] false 0 0 false) where
  fam := fun x he => by cases he
  grp := fun _ _ _ _ _ _ he => by cases he
  row := fun _ _ _ _ _ _ he => by cases he
  mp := fun k es he => by cases he; exact ⟨rfl, rfl, rfl, trivial⟩

omit [Tok] in
theorem run_newRow (w : World) (t : TypeId) (cells : Array Value) : (newRow t cells).run P w = .ok ⟨w.heap.size, 0, none⟩ (w.alloc (Obj.cells cells t (0, 0))) := by
  unfold newRow
  simp only [Sem.run_bind, run_newObj, Result.andThen_ok, Sem.run_pure]
  rfl

omit [Tok] in
theorem repCells_get (zero : List AV) (k : Nat) (hk : zero.length = k) : ∀ n, (repCells zero n).length = n * k ∧ ∀ i, i < n * k → (repCells zero n)[i]? = zero[i % k]?
  | 0 => ⟨by simp [repCells], fun i hi => by omega⟩
  | n + 1 => by
    obtain ⟨h1, h2⟩ := repCells_get zero k hk n
    have e : (n + 1) * k = k + n * k := by rw [Nat.add_mul]; omega
    refine ⟨by simp only [repCells, List.length_append, h1, hk]; omega, fun i hi => ?_⟩
    simp only [repCells]
    rw [List.getElem?_append]
    by_cases hik : i < zero.length
    · rw [if_pos hik, Nat.mod_eq_of_lt (by omega)]
    · rw [if_neg hik, h2 _ (by omega)]
      have hk0 : 0 < k := by
        rcases Nat.eq_zero_or_pos k with h0 | h0
        · subst h0; simp at hi
        · exact h0
      rw [hk]
      congr 1
      rw [← Nat.mod_eq_sub_mod (by omega)]

theorem zeros_sound {k n : Nat} {zero : List AV} {z : Array Value} (hz : zero.length = k) (hs : z.size = k) (hl : VRL φ A w.heap zero (fun i => z[i]?)) :
    ((Array.range (n * k)).map (fun i => z[i % z.size]!)).size = (repCells zero n).length ∧ VRL φ A w.heap (repCells zero n) (fun i => ((Array.range (n * k)).map (fun i => z[i % z.size]!))[i]?) := by
  obtain ⟨h1, h2⟩ := repCells_get zero k hz n
  refine ⟨by simp [h1], VRL.of _ _ fun i x hx => ?_⟩
  have hi : i < n * k := by rw [← h1]; exact (List.getElem?_eq_some_iff.1 hx).1
  rw [h2 i hi] at hx
  obtain ⟨v, h3, h4⟩ := VRL.get _ _ hl _ _ hx
  refine ⟨v, ?_, h4⟩
  rw [Array.getElem?_map, Array.getElem?_range, if_pos hi, hs]
  simp only [Option.map_some]
  rw [getElem!_def, h3]

omit [Tok] in
theorem fillAV_length {place : Nat → Option (Nat × Nat)} : ∀ {ps : List (Nat × AV)} {cells out : List AV}, fillAV place cells ps = some out → out.length = cells.length
  | [], cells, out, h => by simp [fillAV] at h; rw [h]
  | (i, x) :: ps, cells, out, h => by
    simp only [fillAV] at h
    split at h
    · cases h
    · obtain ⟨hb, h⟩ := bif_bind h
      simp only [Bool.and_eq_true, nbeq, nble, decide_eq_true_eq] at hb
      rw [fillAV_length h]
      simp
      omega

theorem aop_sound (hρ : ER φ A w.heap ρ a) {o : Oper} {e : Ent} {mk : Nat → AV} (h : aop P ρ o = some (e, mk)) :
    ∃ obj v, (execOp a.eval o).run P w = .ok (.value v) (w.alloc obj) ∧ NewOk φ A w.heap e obj ∧
      ∀ (φ' : Place) (A' : Nat → Prop) (b : Nat), φ' b = some (w.heap.size, 0) → VR φ' A' (w.heap.push obj) (mk b) v := by
  obtain ⟨dst, op, type, pos, after, guard⟩ := o
  have ptr : ∀ (obj : Obj) (φ' : Place) (A' : Nat → Prop) (b : Nat), φ' b = some (w.heap.size, 0) → VR φ' A' (w.heap.push obj) (.ptr b 0) (.pointer (some ⟨w.heap.size, 0, none⟩)) :=
    fun obj φ' A' b hb => by simp only [VR]; exact ⟨_, _, hb, rfl⟩
  cases op
  case alloc t =>
    simp only [aop, Option.map_eq_some_iff] at h
    obtain ⟨zs, h1, h2⟩ := h
    cases h2
    obtain ⟨z, hz1, hz2, hz3⟩ := zeroOf_run h1
    refine ⟨Obj.cells z.cells t (0, 0), .pointer (some ⟨w.heap.size, 0, none⟩), ?_, NewOk.cells hz2 (hz3 φ A w.heap), ptr _⟩
    have he : execOp a.eval ⟨dst, .alloc t, type, pos, after, guard⟩ = (do pure (.value (← Instr.alloc t true (.tuple #[])))) := rfl
    rw [he]
    unfold Instr.alloc newVar
    simp only [Sem.run_bind, hz1, Result.andThen_ok, run_newRow, Sem.run_pure]
  case box t y =>
    simp only [aop, Option.map_eq_some_iff] at h
    obtain ⟨y', h1, h2⟩ := h
    cases h2
    obtain ⟨c1, c2⟩ := VR.cells (ev_sound hρ h1)
    refine ⟨Obj.cells (a.eval y).cells t (0, 0), .pointer (some ⟨w.heap.size, 0, none⟩), ?_, NewOk.cells c1 c2, ptr _⟩
    have he : execOp a.eval ⟨dst, .box t y, type, pos, after, guard⟩ = (do pure (.value (← Instr.box t (a.eval y)))) := rfl
    rw [he]
    unfold Instr.box newVar
    simp only [Sem.run_bind, Result.andThen_ok, run_newRow, Sem.run_pure]
  case buildSlice t len parts =>
    simp only [aop] at h
    split at h
    · rename_i e' he'
      have hu := elemOfSlice_spec he'
      split at h
      · rename_i k zero ps hk hz hps
        obtain ⟨hb, h⟩ := bif_bind h
        simp only [Bool.and_eq_true, nbeq, nble, decide_eq_true_eq] at hb
        simp only [Option.map_eq_some_iff] at h
        obtain ⟨cs, h1, h2⟩ := h
        cases h2
        obtain ⟨z, hz1, hz2, hz3⟩ := zeroOf_run hz
        have hp := evParts_sound hρ _ _ hps
        obtain ⟨g1, g2⟩ := zeros_sound (n := len) hb.2 (hz2.trans hb.2) (hz3 φ A w.heap)
        obtain ⟨arr, h3, h4, h5⟩ := fill_sound _ ps _ _ _ cs hp g1 g2 h1
        refine ⟨Obj.cells arr e' (0, 0), .slice (some ⟨w.heap.size, 0, none⟩) len len, ?_, NewOk.cells h4 h5, fun φ' A' b hb' => ?_⟩
        · have he : execOp a.eval ⟨dst, .buildSlice t len parts, type, pos, after, guard⟩ = (do pure (.value (← Instr.buildSlice t len (parts.map fun (i, x) => (i, a.eval x))))) := rfl
          rw [he]
          unfold Instr.buildSlice
          have hpl : (parts.map fun (i, x) => (i, a.eval x)).toList = parts.toList.map fun p => (p.1, a.eval p.2) := by simp
          simp only [Sem.run_bind, run_underlying hu, Result.andThen_ok, sizeOfP_run hk]
          rw [if_neg (by omega)]
          simp only [Sem.run_pure, Result.andThen_ok]
          have hpl' : (Array.map (fun x => (x.1, a.eval x.2)) parts).toList = parts.toList.map fun p => (p.1, a.eval p.2) := by simp
          have h3' := h3
          by_cases h0 : len * k = 0
          · rw [if_pos h0]
            have hzm : (Array.range (len * k)).map (fun i => (#[] : Array Value)[i % (#[] : Array Value).size]!) = (Array.range (len * k)).map (fun i => z.cells[i % z.cells.size]!) := by
              rw [h0]; simp
            simp only [Sem.run_bind, Sem.run_pure, Result.andThen_ok]
            rw [hzm, hpl', h3]
            simp only [run_newRow, Sem.run_bind, Result.andThen_ok, Sem.run_pure]
          · rw [if_neg h0]
            simp only [Sem.run_bind, hz1, Sem.run_pure, Result.andThen_ok]
            rw [hpl', h3]
            simp only [run_newRow, Sem.run_bind, Result.andThen_ok, Sem.run_pure]
        · simp only [VR]
          refine ⟨w.heap.size, 0, _, len, hb', rfl, Nat.le_refl _, fun n hn => by cases hn; rfl, .inr rfl, arr, e', (0, 0), by simp, ?_⟩
          rw [h4]
          have : cs.length = len * k := by
            have := fillAV_length h1
            rw [this]; exact (repCells_get zero k hb.2 len).1
          omega
      · cases h
    · cases h
  case makeMap t r =>
    simp only [aop] at h
    split at h
    · rename_i kt et hu
      have nm : NewOk φ A w.heap (.mp none []) (Obj.map #[] 0) := NewOk.map
      have fin : ∀ (r' : Option Value), (match r' with | none => True | some v => ∃ k n, v = .int k n) → execOp a.eval ⟨dst, .makeMap t r, type, pos, after, guard⟩ = (do pure (.value (← Instr.makeMap t r'))) →
          (execOp a.eval ⟨dst, .makeMap t r, type, pos, after, guard⟩).run P w = .ok (.value (.map (some w.heap.size))) (w.alloc (Obj.map #[] 0)) := fun r' hr he => by
        rw [he]
        unfold Instr.makeMap
        cases r' with
        | none => simp only [Sem.run_bind, run_newObj, Result.andThen_ok, Sem.run_pure]; rfl
        | some v =>
          obtain ⟨k, n, rfl⟩ := hr
          simp only [Sem.run_bind, run_underlying hu, asInt, asIntOf, run_newObj, Result.andThen_ok, Sem.run_pure]; rfl
      have vr : ∀ (φ' : Place) (A' : Nat → Prop) (b : Nat), φ' b = some (w.heap.size, 0) → VR φ' A' (w.heap.push (Obj.map #[] 0)) (.map b) (.map (some w.heap.size)) := fun φ' A' b hb => by
        simp only [VR]; exact ⟨_, _, hb, rfl⟩
      split at h
      · rename_i hr
        cases h
        have : r = none := by
          cases r with
          | none => rfl
          | some y => simp only [evo, Option.map_eq_some_iff] at hr; obtain ⟨_, _, h2⟩ := hr; cases h2
        subst this
        exact ⟨_, _, fin none trivial rfl, nm, vr⟩
      · rename_i k n hr
        cases h
        rcases evo_sound hρ hr with ⟨_, h1⟩ | ⟨y, v, rfl, h1, h2⟩
        · cases h1
        · cases h1
          simp only [VR] at h2
          exact ⟨_, _, fin (some (a.eval y)) ⟨k, n, h2⟩ rfl, nm, vr⟩
      · cases h
    · cases h
  case makeChan t y =>
    simp only [aop] at h
    split at h
    · rename_i d e n hu hn
      split at h
      · rename_i bytes hby
        obtain ⟨hb, h2⟩ := bif_some h
        simp only [Bool.and_eq_true, nble, decide_eq_true_eq] at hb
        cases h2
        have e1 := ev_sound hρ hn
        simp only [VR] at e1
        unfold bytesOfP at hby
        simp only [Option.map_eq_some_iff] at hby
        obtain ⟨i, h3, rfl⟩ := hby
        refine ⟨Obj.chan n #[] false 0 0 false, .chan (some w.heap.size), ?_, NewOk.chan,
          fun φ' A' b hb' => by simp only [VR]; exact ⟨_, _, hb', rfl⟩⟩
        have he : execOp a.eval ⟨dst, .makeChan t y, type, pos, after, guard⟩ = (do pure (.value (← Instr.makeChan t (a.eval y)))) := rfl
        have hmul : (i.bytes : Int) * n ≤ 281474976710544 := by
          have : ((i.bytes * n : Nat) : Int) ≤ ((1000000 : Nat) : Int) := Int.ofNat_le.2 hb.1
          rw [Int.natCast_mul] at this
          omega
        have hn63 : (n : Int) ≤ 9223372036854775807 := by have := hb.2; omega
        have hneg : ¬ (n : Int) < 0 := by omega
        rw [he, e1]
        unfold Instr.makeChan
        have e48 : (2 : Int) ^ 48 - 112 = 281474976710544 := by rfl
        have emx : IntKind.i64.max = 9223372036854775807 := rfl
        have c1 : ¬ ((Int.ofNat n) < 0 ∨ Int.ofNat n > IntKind.i64.max ∨ (i.bytes : Int) * Int.ofNat n > 281474976710544) := by
          rw [emx]
          intro hc
          rcases hc with hc | hc | hc
          · exact hneg hc
          · exact absurd hn63 (Int.not_le.2 hc)
          · exact absurd hmul (Int.not_le.2 hc)
        have tn : (Int.ofNat n).toNat = n := rfl
        simp only [Sem.run_bind, asInt, asIntOf, Sem.run_pure, Result.andThen_ok, run_underlying hu, run_typeInfo w h3, e48, if_neg c1, run_newObj, tn]
        rfl
      · cases h
    · cases h
  case makeSlice t len cap =>
    simp only [aop] at h
    split at h
    · rename_i e' he'
      have hu := elemOfSlice_spec he'
      split at h
      · rename_i k bytes zero kn n kc c hk hby hz hlen hcap
        obtain ⟨hb, h2⟩ := bif_some h
        simp only [Bool.and_eq_true, nbeq, nble, decide_eq_true_eq] at hb
        obtain ⟨b1, b2, b3, b4⟩ := hb
        cases h2
        obtain ⟨z, hz1, hz2, hz3⟩ := zeroOf_run hz
        have e1 := ev_sound hρ hlen
        have e2 := ev_sound hρ hcap
        simp only [VR] at e1 e2
        obtain ⟨g1, g2⟩ := zeros_sound (n := c) b4 (hz2.trans b4) (hz3 φ A w.heap)
        have hti : ∀ w, (typeInfo e').run P w = .ok ((P.info? e').getD default) w ∧ ((P.info? e').getD default).bytes = bytes := fun w => by
          unfold bytesOfP at hby
          simp only [Option.map_eq_some_iff] at hby
          obtain ⟨i, h3, h4⟩ := hby
          rw [h3]
          exact ⟨by simp [run_typeInfo w h3], by simpa using h4⟩
        have wr1 : ∀ m : Nat, m ≤ 1000000 → IntKind.i64.wrap (m : Int) = m := fun m hm => by
          unfold IntKind.wrap
          simp [IntKind.bits, IntKind.signed]
          omega
        refine ⟨Obj.cells ((Array.range (c * k)).map fun i => z.cells[i % z.cells.size]!) e' (0, 0), .slice (some ⟨w.heap.size, 0, none⟩) n c, ?_, ?_, fun φ' A' b hb' => ?_⟩
        · have he : execOp a.eval ⟨dst, .makeSlice t len cap, type, pos, after, guard⟩ = (do pure (.value (← Instr.makeSlice t (a.eval len) (a.eval cap)))) := rfl
          rw [he, e1, e2]
          unfold Instr.makeSlice
          simp only [Sem.run_bind, run_underlying hu, Result.andThen_ok, asInt, asIntOf, Sem.run_pure, (hti _).1, (hti w).2]
          have hwl : IntKind.i64.wrap (Int.ofNat n) = Int.ofNat n := wr1 n (by omega)
          have hwc : IntKind.i64.wrap (Int.ofNat c) = Int.ofNat c := wr1 c b3
          have hbc : (bytes : Int) * Int.ofNat c ≤ 1000000 := by
            have : ((c * bytes : Nat) : Int) ≤ ((1000000 : Nat) : Int) := Int.ofNat_le.2 b2
            rw [Int.natCast_mul] at this
            rw [Int.mul_comm]; exact this
          have e48 : (2 : Int) ^ 48 = 281474976710656 := by rfl
          rw [hwl, hwc, e48]
          have cond : (decide (Int.ofNat c < 0) || decide ((bytes : Int) * Int.ofNat c > 281474976710656) || decide (Int.ofNat n < 0) || decide (Int.ofNat n > Int.ofNat c)) = false := by
            simp only [Bool.or_eq_false_iff, decide_eq_false_iff_not]
            refine ⟨⟨⟨?_, ?_⟩, ?_⟩, ?_⟩
            · exact Int.not_lt.2 (Int.natCast_nonneg c)
            · omega
            · exact Int.not_lt.2 (Int.natCast_nonneg n)
            · have : (n : Int) ≤ c := Int.ofNat_le.2 b1
              exact Int.not_lt.2 this
          rw [cond]
          simp only [Bool.false_eq_true, if_false, Sem.run_bind, run_askRoom, Result.andThen_ok, sizeOfP_run hk]
          have tn : (Int.ofNat c).toNat = c := rfl
          have tn' : (Int.ofNat n).toNat = n := rfl
          rw [tn, tn']
          by_cases h0 : c * k = 0
          · rw [if_pos h0]
            have hzm : (Array.range (c * k)).map (fun i => (#[] : Array Value)[i % (#[] : Array Value).size]!) = (Array.range (c * k)).map (fun i => z.cells[i % z.cells.size]!) := by
              rw [h0]; simp
            simp only [Sem.run_bind, Sem.run_pure, Result.andThen_ok]
            rw [hzm]
            simp only [run_newRow, Result.andThen_ok, Sem.run_pure]
          · rw [if_neg h0]
            simp only [Sem.run_bind, hz1, Sem.run_pure, Result.andThen_ok, run_newRow]
        · have := NewOk.cells (ty := e') (ex := true) g1 g2
          simpa using this
        · simp only [VR]
          refine ⟨w.heap.size, 0, _, c, hb', rfl, b1, fun q hq => by cases hq; rfl, .inr rfl, (Array.range (c * k)).map (fun i => z.cells[i % z.cells.size]!), e', (0, 0), by simp, ?_⟩
          simp
      · cases h
    · cases h
  all_goals (simp only [aop] at h; cases h)
end
end
end Go.Ev
/- What writes: stores and appends, as the model has them. -/
namespace Go.Ev
open Go
noncomputable section
variable [Tok]

section
variable {P : Program} {σ : St} {φ : Place} {A : Nat → Prop} {w : World} {ρ : Env} {a : Act}

omit [Tok] in
theorem setCell_eq {w : World} {c o : Nat} {arr : Array Value} {ty : TypeId} {fr : Nat × Nat} (hc : w.heap[c]? = some (Obj.cells arr ty fr)) (v : Value) :
    w.setCell ⟨c, o, none⟩ v = { w with heap := w.heap.setIfInBounds c (Obj.cells (arr.setIfInBounds o v) ty fr) } := by
  unfold World.setCell
  congr 1
  apply Array.ext_getElem?
  intro i
  rw [Array.getElem?_modify, set_get _ _ _ (lt_of_get hc)]
  by_cases e : c = i
  · subst e
    simp [hc]
  · rw [if_neg e, if_neg (fun h => e h.symm)]

omit [Tok] in
theorem run_storeCells {ty : TypeId} {c o : Nat} : ∀ (vs : List Value) (i : Nat) (w : World) (arr : Array Value), w.heap[c]? = some (Obj.cells arr ty (0, 0)) → o + i + vs.length ≤ arr.size →
    vs.all Value.oneCell' = true → (storeCells ⟨c, o, none⟩ vs i).run P w = .ok () { w with heap := w.heap.setIfInBounds c (Obj.cells (wr arr (o + i) vs) ty (0, 0)) }
  | [], i, w, arr, hc, _, _ => by
    have : w.heap.setIfInBounds c (Obj.cells arr ty (0, 0)) = w.heap := by
      apply Array.ext_getElem?
      intro j
      rw [set_get _ _ _ (lt_of_get hc)]
      by_cases e : j = c
      · subst e; rw [if_pos rfl, hc]
      · rw [if_neg e]
    simp [storeCells, wr, this]
  | v :: r, i, w, arr, hc, hs, hv => by
    simp only [List.length_cons] at hs
    simp only [List.all_cons, Bool.and_eq_true] at hv
    have hcell : w.cell? ((⟨c, o, none⟩ : Addr).add i) = some (arr[o + i]'(by omega)) := by
      rw [addr_add, cell?_of hc]; simp
    have hfr : w.frozen? ((⟨c, o, none⟩ : Addr).add i) = false := by
      rw [addr_add]; unfold World.frozen?; simp [hc]
    have ih := run_storeCells (ty := ty) (c := c) (o := o) r (i + 1) { w with heap := w.heap.setIfInBounds c (Obj.cells (arr.setIfInBounds (o + i) v) ty (0, 0)) } (arr.setIfInBounds (o + i) v)
      (by simp only; rw [set_get _ _ _ (lt_of_get hc), if_pos rfl]) (by simp; omega) hv.2
    simp only [storeCells, Sem.run_bind, run_store _ _ _ _ _ hv.1, hcell, hfr, Bool.false_eq_true, if_false, Result.andThen_ok]
    rw [addr_add, setCell_eq hc, ih]
    simp only [wr, Array.setIfInBounds_setIfInBounds]
    rfl

theorem isCell_one {x : AV} {v : Value} (hv : VR φ A w.heap x v) (h : x.isCell = true) : v.oneCell' = true := by
  cases x with
  | lit u => simp only [VR] at hv; subst hv; cases v <;> first | rfl | (simp [AV.isCell] at h)
  | ptr b off => simp only [VR] at hv; obtain ⟨_, _, _, rfl⟩ := hv; rfl
  | cptr cs => simp only [VR] at hv; obtain ⟨_, _, rfl, _⟩ := hv; rfl
  | sl b off len k cap => simp only [VR] at hv; obtain ⟨_, _, _, _, _, rfl, _⟩ := hv; rfl
  | psl len k cs => simp only [VR] at hv; obtain ⟨_, _, rfl, _⟩ := hv; rfl
  | agg l => simp [AV.isCell] at h
  | tup l => simp [AV.isCell] at h
  | map b => simp only [VR] at hv; obtain ⟨_, _, _, rfl⟩ := hv; rfl
  | chan b => simp only [VR] at hv; obtain ⟨_, _, _, rfl⟩ := hv; rfl
  | var n => simp only [VR] at hv; rcases Tok.one n with ⟨k, x, e⟩ | ⟨b, e⟩ <;> rw [hv, e] <;> rfl
  | fn f x y => simp only [VR] at hv; obtain ⟨_, _, rfl, _⟩ := hv; rfl

theorem all_one {cs : List AV} {vs : List Value} (hl : vs.length = cs.length) (hv : VRL φ A w.heap cs (fun i => vs[i]?)) (h : cs.all AV.isCell = true) : vs.all Value.oneCell' = true := by
  rw [List.all_eq_true] at h ⊢
  intro v hm
  obtain ⟨i, hi, rfl⟩ := List.getElem_of_mem hm
  obtain ⟨u, h1, h2⟩ := VRL.get _ _ hv i cs[i] (by simp)
  have : u = vs[i] := by rw [List.getElem?_eq_getElem hi] at h1; exact (Option.some.inj h1).symm
  rw [← this]
  exact isCell_one h2 (h _ (List.getElem_mem _))

/-- Behind a world: the outside is as it was. -/
structure WX (w w' : World) : Prop where
  os : w'.os = w.os
  output : w'.output = w.output
  tape : w'.tape = w.tape

omit [Tok] in
theorem WX.refl (w : World) : WX w w := ⟨rfl, rfl, rfl⟩
omit [Tok] in
theorem WX.trans {w w' w'' : World} (x : WX w w') (y : WX w' w'') : WX w w'' := ⟨y.os.trans x.os, y.output.trans x.output, y.tape.trans x.tape⟩

/-- What lies in no place that the evaluator holds stays as it is, and gets no place. -/
def Keeps (φ : Place) (A : Nat → Prop) (h : Array Obj) (φ' : Place) (A' : Nat → Prop) (h' : Array Obj) : Prop :=
  ∀ c, c < h.size → (∀ b s, φ b ≠ some (c, s)) → h'[c]? = h[c]? ∧ (∀ b s, φ' b ≠ some (c, s)) ∧ (A c → A' c)

omit [Tok] in
theorem Keeps.refl (φ : Place) (A : Nat → Prop) (h : Array Obj) : Keeps φ A h φ A h := fun _ _ hn => ⟨rfl, hn, id⟩

omit [Tok] in
theorem Keeps.trans {φ φ' φ'' : Place} {A A' A'' : Nat → Prop} {h h' h'' : Array Obj} (x : Keeps φ A h φ' A' h') (hs : h.size ≤ h'.size) (y : Keeps φ' A' h' φ'' A'' h'') : Keeps φ A h φ'' A'' h'' := fun c hc hn => by
  obtain ⟨h1, h2, h3⟩ := x c hc hn
  obtain ⟨h4, h5, h6⟩ := y c (by omega) h2
  exact ⟨h4.trans h1, h5, h6 ∘ h3⟩

omit [Tok] in
theorem Keeps.set {φ : Place} {A : Nat → Prop} {h : Array Obj} {b c s : Nat} (hp : φ b = some (c, s)) (o : Obj) : Keeps φ A h φ A (h.setIfInBounds c o) := fun c' _ hn => by
  refine ⟨Array.getElem?_setIfInBounds_ne fun e => ?_, hn, id⟩
  subst e
  exact hn _ _ hp

omit [Tok] in
theorem Keeps.push {φ : Place} {A : Nat → Prop} {h : Array Obj} (n : Nat) (o : Obj) : Keeps φ A h (φadd φ n (h.size, 0)) (fun c => A c ∨ c = h.size) (h.push o) := fun c hc hn => by
  refine ⟨by rw [push_get, if_neg (by omega)], fun b s hb => ?_, .inl⟩
  unfold φadd at hb
  split at hb
  · cases hb; omega
  · exact hn _ _ hb

omit [Tok] in
theorem Keeps.place {φ : Place} {A : Nat → Prop} {h : Array Obj} {b c s : Nat} (hp : φ b = some (c, s)) (n s0 : Nat) (o : Obj) : Keeps φ A h (φadd φ n (c, s0)) A (h.setIfInBounds c o) := fun c' hc hn => by
  refine ⟨(Keeps.set (A := A) hp o c' hc hn).1, fun b' s' hb => ?_, id⟩
  unfold φadd at hb
  split at hb
  · cases hb; exact hn _ _ hp
  · exact hn _ _ hb

/-- What is owed behind an operation, or a call. -/
structure Behind (σ' : St) (φ : Place) (A : Nat → Prop) (w : World) (φ' : Place) (A' : Nat → Prop) (w' : World) : Prop where
  rel : Rel σ' φ' A' w'.heap
  tot : Tot σ' φ'
  ext : Ext φ A w.heap φ' A' w'.heap
  wx : WX w w'
  keeps : Keeps φ A w.heap φ' A' w'.heap

/-- Cells are stored at an address that the evaluator holds. -/
theorem store_cells (R : Rel σ φ A w.heap) (T : Tot σ φ) {b off : Nat} {r : Row} (hr : σ.row b = some r) {c s : Nat} (hp : φ b = some (c, s)) {cs : List AV} (hn : off + cs.length ≤ r.n) (hc : cs.all AV.isCell = true)
    {vs : List Value} (hl : vs.length = cs.length) (hv : VRL φ A w.heap cs (fun i => vs[i]?)) :
    ∃ w', (storeCells ⟨c, s + off, none⟩ vs).run P w = .ok () w' ∧ Behind (wrote σ b r (setCells r.t off cs)) φ A w φ A w' := by
  obtain ⟨ha, arr, h1, h2, h3, h4⟩ := R.rows b r c s hr hp
  refine ⟨_, run_storeCells (P := P) vs 0 w arr h1 (by omega) (all_one hl hv hc), ?_, T.wrote hr _, ?_, ⟨rfl, rfl, rfl⟩, Keeps.set hp _⟩
  · refine R.wrote hr hp h1 (wr_size _ _ _) _ fun i x hi hx => ?_
    rw [setCells_get] at hx
    rw [wr_get _ _ _ _ (by omega)]
    by_cases e : off ≤ i ∧ i < off + cs.length
    · rw [if_pos e] at hx
      rw [if_pos (by omega)]
      obtain ⟨v, h5, h6⟩ := VRL.get _ _ hv _ _ hx
      refine ⟨v, ?_, h6⟩
      rw [← h5]
      congr 1
      omega
    · rw [if_neg e] at hx
      rw [if_neg (by omega)]
      exact h4 i x hi hx
  · exact ext_set ha h1 (wr_size _ _ _)

theorem cells_list (x : AV) (v : Value) (hv : VR φ A w.heap x v) : v.cells.toList.length = x.cells.length ∧ VRL φ A w.heap x.cells (fun i => v.cells.toList[i]?) := by
  obtain ⟨h1, h2⟩ := VR.cells hv
  exact ⟨by simpa using h1, by simpa using h2⟩

theorem storeAV_sound (R : Rel σ φ A w.heap) (T : Tot σ φ) {x : AV} {p : Value} (hx : VR φ A w.heap x p) {cs : List AV} {vs : List Value} (hl : vs.length = cs.length) (hv : VRL φ A w.heap cs (fun i => vs[i]?))
    {σ' : St} (h : storeAV σ x cs = some σ') : ∃ ad w', p = .pointer (some ad) ∧ (storeCells ad vs).run P w = .ok () w' ∧ Behind σ' φ A w φ A w' := by
  obtain ⟨b, off, r, rfl, h1, h2, h3, rfl⟩ := storeAV_wrote h
  simp only [VR] at hx
  obtain ⟨c, s, hp, rfl⟩ := hx
  obtain ⟨w', h4, h5⟩ := store_cells (P := P) R T h1 hp h2 h3 hl hv
  exact ⟨_, w', rfl, h4, h5⟩
end
end
end Go.Ev
/- Families of rows that may be one array. -/
namespace Go.Ev
open Go
variable [Tok]

section
variable {σ : St} {φ : Place} {A : Nat → Prop} {h : Array Obj}

omit [Tok] in
theorem fam_row {x : Bool} {b : Nat} {r : Row} (hr : (σ.new (.fam x)).2.row b = some r) : b ≠ σ.next := by
  intro e
  have := (St.row_some hr).1
  rw [new_get, if_pos e] at this
  cases this

/-- A family is named. -/
theorem Rel.newFam (R : Rel σ φ A h) (x : Bool) : Rel (σ.new (.fam x)).2 φ A h := by
  have hnext : (σ.new (.fam x)).2.next = σ.next + 1 := rfl
  have old : ∀ b r, (σ.new (.fam x)).2.row b = some r → σ.row b = some r := fun b r hr => by rw [← row_new R.gbelow (.fam x) b (fam_row hr)]; exact hr
  have oldmp : ∀ b k es, (σ.new (.fam x)).2.tr.get b = some (.mp k es) → σ.tr.get b = some (.mp k es) := fun b k es hb => by
    rw [new_get] at hb
    by_cases e : b = σ.next
    · rw [if_pos e] at hb; cases hb
    · rw [if_neg e] at hb; exact hb
  refine ⟨fun b e hb => ?_, fun b ty n t g tip ex hb => ?_, fun b p hb => ?_, R.places, R.owned, fun b r c s hr hp => R.rows b r c s (old b r hr) hp,
    fun b k es c s hb hp => R.maps b k es c s (oldmp b k es hb) hp, fun b b' r r' c s s' hne hr hr' => R.apart b b' r r' c s s' hne (old b r hr) (old b' r' hr'),
    fun b b' k k' es es' c s s' hne hb hb' => R.mapart b b' k k' es es' c s s' hne (oldmp b k es hb) (oldmp b' k' es' hb'),
    fun b b' r r' c s s' hr ht hr' => R.tips b b' r r' c s s' (old b r hr) ht (old b' r' hr'), fun g y hg => ?_,
    fun b b' r r' c s s' hne hr hr' => R.onetip b b' r r' c s s' hne (old b r hr) (old b' r' hr')⟩
  · rw [new_get] at hb
    rw [hnext]
    by_cases e1 : b = σ.next
    · omega
    · rw [if_neg e1] at hb; have := R.below _ _ hb; omega
  · rw [new_get] at hb
    rw [hnext]
    by_cases e1 : b = σ.next
    · rw [if_pos e1] at hb; cases hb
    · rw [if_neg e1] at hb; have := R.gbelow _ _ _ _ _ _ _ hb; omega
  · rw [hnext]; have := R.fresh _ _ hb; omega
  · rw [new_get] at hg
    by_cases e1 : g = σ.next
    · rw [e1]; exact R.place_next
    · rw [if_neg e1] at hg; exact R.fams g y hg

omit [Tok] in
theorem Tot.newFam (T : Tot σ φ) (x : Bool) : Tot (σ.new (.fam x)).2 φ := by
  intro b e hb hf
  rw [new_get] at hb
  by_cases e1 : b = σ.next
  · rw [if_pos e1] at hb; exact (hf x (Option.some.inj hb).symm).elim
  · rw [if_neg e1] at hb; exact T b e hb hf

/-- A block gets a family, or keeps it; it is the newest of it no longer. -/
theorem Rel.retag (R : Rel σ φ A h) {b ty n : Nat} {t : Tr AV} {g0 : Option Nat} {tip ex : Bool} (hb : σ.tr.get b = some (.cells ty n t g0 tip ex)) (hg0 : ∀ x, g0 = some x → σ.tr.get x = some (.fam true))
    {g : Nat} {x : Bool} (hg : σ.tr.get g = some (.fam x)) (hg1 : g0 = none ∨ g0 = some g) : Rel (σ.put b (.cells ty n t (some g) false ex)) φ A h := by
  have hrow := St.row_of hb hg0
  have hgb : g ≠ b := fun e => by subst e; rw [hb] at hg; cases hg
  have old : ∀ b' r, (σ.put b (.cells ty n t (some g) false ex)).row b' = some r → (b' = b ∧ r = ⟨ty, n, t, some g, false, ex⟩ ∧ x = true) ∨ (b' ≠ b ∧ σ.row b' = some r) := fun b' r hr => by
    obtain ⟨h1, h2⟩ := St.row_some hr
    rw [put_get] at h1
    by_cases e : b' = b
    · rw [if_pos e] at h1
      obtain ⟨rty, rn, rt, rg, rtip, rex⟩ := r
      simp only [Option.some.injEq, Ent.cells.injEq] at h1
      obtain ⟨rfl, rfl, rfl, rfl, rfl, rfl⟩ := h1
      left
      have h3 := h2 g rfl
      rw [put_get, if_neg hgb, hg] at h3
      exact ⟨e, rfl, by cases h3; rfl⟩
    · rw [if_neg e] at h1
      right
      refine ⟨e, ?_⟩
      have := St.row_of h1 (fun y hy => by
        have h3 := h2 y hy
        rw [put_get] at h3
        by_cases e2 : y = b
        · rw [if_pos e2] at h3; cases h3
        · rw [if_neg e2] at h3; exact h3)
      exact this
  have oldmp : ∀ b' k es, (σ.put b (.cells ty n t (some g) false ex)).tr.get b' = some (.mp k es) → σ.tr.get b' = some (.mp k es) := fun b' k es hb' => by
    rw [put_get] at hb'
    by_cases e : b' = b
    · rw [if_pos e] at hb'; cases hb'
    · rw [if_neg e] at hb'; exact hb'
  refine ⟨fun b' e hb' => ?_, fun b' ty n t g tip ex hb' => ?_, R.fresh, R.places, R.owned, fun b' r c s hr hp => ?_, fun b' k es c s hb' hp => R.maps b' k es c s (oldmp b' k es hb') hp,
    fun b1 b2 r1 r2 c s s' hne hr hr' hp hp' => ?_, fun b1 b2 k k' es es' c s s' hne hb hb' => R.mapart b1 b2 k k' es es' c s s' hne (oldmp b1 k es hb) (oldmp b2 k' es' hb'),
    fun b1 b2 r1 r2 c s s' hr ht hr' hp hp' => ?_, fun g' y hg' => ?_, fun b1 b2 r1 r2 c s s' hne hr hr' ht ht' hp hp' => ?_⟩
  · rw [put_get] at hb'
    by_cases e1 : b' = b
    · subst e1; exact R.below _ _ hb
    · rw [if_neg e1] at hb'; exact R.below _ _ hb'
  · rw [put_get] at hb'
    by_cases e1 : b' = b
    · rw [if_pos e1] at hb'; cases hb'; exact R.below _ _ hg
    · rw [if_neg e1] at hb'; exact R.gbelow _ _ _ _ _ _ _ hb'
  · rcases old b' r hr with ⟨rfl, rfl, _⟩ | ⟨_, h1⟩
    · have := R.rows b' _ c s hrow hp
      exact this
    · exact R.rows b' r c s h1 hp
  · rcases old b1 r1 hr with ⟨rfl, rfl, _⟩ | ⟨e1, h1⟩ <;> rcases old b2 r2 hr' with ⟨rfl, rfl, _⟩ | ⟨e2, h2⟩
    · exact (hne rfl).elim
    · obtain ⟨y, hy, hy'⟩ := R.apart b1 b2 _ r2 c s s' hne hrow h2 hp hp'
      simp only at hy
      rcases hg1 with h3 | h3
      · rw [h3] at hy; cases hy
      · rw [h3] at hy; cases hy; exact ⟨g, rfl, hy'⟩
    · obtain ⟨y, hy, hy'⟩ := R.apart b1 b2 r1 _ c s s' hne h1 hrow hp hp'
      simp only at hy'
      rcases hg1 with h3 | h3
      · rw [h3] at hy'; cases hy'
      · rw [h3] at hy'; cases hy'; exact ⟨g, hy, rfl⟩
    · exact R.apart b1 b2 r1 r2 c s s' hne h1 h2 hp hp'
  · rcases old b1 r1 hr with ⟨rfl, rfl, _⟩ | ⟨e1, h1⟩
    · cases ht
    · rcases old b2 r2 hr' with ⟨rfl, rfl, _⟩ | ⟨e2, h2⟩
      · have := R.tips b1 b2 r1 _ c s s' h1 ht hrow hp hp'
        exact this
      · exact R.tips b1 b2 r1 r2 c s s' h1 ht h2 hp hp'
  · rw [put_get] at hg'
    by_cases e1 : g' = b
    · rw [if_pos e1] at hg'; cases hg'
    · rw [if_neg e1] at hg'; exact R.fams g' y hg'
  · rcases old b1 r1 hr with ⟨rfl, rfl, _⟩ | ⟨e1, h1⟩
    · cases ht
    · rcases old b2 r2 hr' with ⟨rfl, rfl, _⟩ | ⟨e2, h2⟩
      · cases ht'
      · exact R.onetip b1 b2 r1 r2 c s s' hne h1 h2 ht ht' hp hp'

omit [Tok] in
theorem Tot.put (T : Tot σ φ) {b : Nat} {e0 e : Ent} (hb : σ.tr.get b = some e0) (h0 : ∀ x, e0 ≠ .fam x) : Tot (σ.put b e) φ := by
  intro x e' hx hf
  rw [put_get] at hx
  by_cases e1 : x = b
  · subst e1; exact T x e0 hb h0
  · rw [if_neg e1] at hx; exact T x e' hx hf

/-- A family is let go. -/
theorem Rel.killFam (R : Rel σ φ A h) {g : Nat} {x : Bool} (hg : σ.tr.get g = some (.fam x)) : Rel (σ.put g (.fam false)) φ A h := by
  have old : ∀ b' r, (σ.put g (.fam false)).row b' = some r → σ.row b' = some r := fun b' r hr => by
    obtain ⟨h1, h2⟩ := St.row_some hr
    rw [put_get] at h1
    by_cases e : b' = g
    · rw [if_pos e] at h1; cases h1
    · rw [if_neg e] at h1
      have := St.row_of h1 (fun y hy => by
        have h3 := h2 y hy
        rw [put_get] at h3
        by_cases e2 : y = g
        · rw [if_pos e2] at h3; cases h3
        · rw [if_neg e2] at h3; exact h3)
      exact this
  have oldmp : ∀ b' k es, (σ.put g (.fam false)).tr.get b' = some (.mp k es) → σ.tr.get b' = some (.mp k es) := fun b' k es hb' => by
    rw [put_get] at hb'
    by_cases e : b' = g
    · rw [if_pos e] at hb'; cases hb'
    · rw [if_neg e] at hb'; exact hb'
  refine ⟨fun b' e hb' => ?_, fun b' ty n t g2 tip ex hb' => ?_, R.fresh, R.places, R.owned, fun b' r c s hr hp => R.rows b' r c s (old b' r hr) hp,
    fun b' k es c s hb' hp => R.maps b' k es c s (oldmp b' k es hb') hp, fun b1 b2 r1 r2 c s s' hne hr hr' => R.apart b1 b2 r1 r2 c s s' hne (old b1 r1 hr) (old b2 r2 hr'),
    fun b1 b2 k k' es es' c s s' hne hb hb' => R.mapart b1 b2 k k' es es' c s s' hne (oldmp b1 k es hb) (oldmp b2 k' es' hb'),
    fun b1 b2 r1 r2 c s s' hr ht hr' => R.tips b1 b2 r1 r2 c s s' (old b1 r1 hr) ht (old b2 r2 hr'), fun g' y hg' => ?_,
    fun b1 b2 r1 r2 c s s' hne hr hr' => R.onetip b1 b2 r1 r2 c s s' hne (old b1 r1 hr) (old b2 r2 hr')⟩
  · rw [put_get] at hb'
    by_cases e1 : b' = g
    · subst e1; exact R.below _ _ hg
    · rw [if_neg e1] at hb'; exact R.below _ _ hb'
  · rw [put_get] at hb'
    by_cases e1 : b' = g
    · rw [if_pos e1] at hb'; cases hb'
    · rw [if_neg e1] at hb'; exact R.gbelow _ _ _ _ _ _ _ hb'
  · rw [put_get] at hg'
    by_cases e1 : g' = g
    · subst e1; exact R.fams _ _ hg
    · rw [if_neg e1] at hg'; exact R.fams g' y hg'

omit [Tok] in
theorem Tot.killFam (T : Tot σ φ) {g : Nat} : Tot (σ.put g (.fam false)) φ := by
  intro x e' hx hf
  rw [put_get] at hx
  by_cases e1 : x = g
  · rw [if_pos e1] at hx; exact (hf false (Option.some.inj hx).symm).elim
  · rw [if_neg e1] at hx; exact T x e' hx hf
end
end Go.Ev
/- A new row in an array that is there. -/
namespace Go.Ev
open Go
variable [Tok]

section
variable {σ : St} {φ : Place} {A : Nat → Prop} {h : Array Obj}

/-- Rows up to a place stay as they are; a new row is told of the array, up to its own end. -/
theorem Rel.place (R : Rel σ φ A h) {c s0 ty n p : Nat} {arr arr' : Array Value} {t : Tr AV} {gn : Option Nat} (ha : A c) (hc : h[c]? = some (Obj.cells arr ty (0, 0)))
    (hs : arr'.size = arr.size) (hsame : ∀ i, i < p → arr'[i]? = arr[i]?) (hend : p ≤ s0 + n) (hroom : s0 + n ≤ arr.size)
    (hothers : ∀ b r s, σ.row b = some r → φ b = some (c, s) → s + r.n ≤ p ∧ r.tip = false ∧ r.ex = r.ex ∧ ∃ g, gn = some g ∧ r.grp = some g)
    (hgn : ∀ g, gn = some g → σ.tr.get g = some (.fam true))
    (hcells : ∀ i x, i < n → t.get i = some x → ∃ v, arr'[s0 + i]? = some v ∧ VR φ A h x v) :
    Rel (σ.new (.cells ty n t gn true false)).2 (φadd φ σ.next (c, s0)) A (h.setIfInBounds c (Obj.cells arr' ty (0, 0))) ∧
      Ext φ A h (φadd φ σ.next (c, s0)) A (h.setIfInBounds c (Obj.cells arr' ty (0, 0))) := by
  have hcl := lt_of_get hc
  have E1 := ext_set (φ := φ) ha hc hs
  have E : Ext φ A h (φadd φ σ.next (c, s0)) A (h.setIfInBounds c (Obj.cells arr' ty (0, 0))) :=
    ⟨fun x q hq => by
      unfold φadd
      by_cases e : x = σ.next
      · subst e; rw [R.place_next] at hq; cases hq
      · rw [if_neg e]; exact hq, E1.own, E1.size, E1.same, E1.rows⟩
  refine ⟨?_, E⟩
  have hnext : (σ.new (.cells ty n t gn true false)).2.next = σ.next + 1 := rfl
  have old : ∀ c', c' ≠ c → (h.setIfInBounds c (Obj.cells arr' ty (0, 0)))[c']? = h[c']? := fun c' e => by rw [set_get h c _ hcl, if_neg e]
  have new : (h.setIfInBounds c (Obj.cells arr' ty (0, 0)))[c]? = some (Obj.cells arr' ty (0, 0)) := by rw [set_get h c _ hcl, if_pos rfl]
  have oldrow : ∀ b r, (σ.new (.cells ty n t gn true false)).2.row b = some r → b ≠ σ.next → σ.row b = some r := fun b r hr hne => by rw [← row_new R.gbelow _ b hne]; exact hr
  have newrow : ∀ r, (σ.new (.cells ty n t gn true false)).2.row σ.next = some r → r = ⟨ty, n, t, gn, true, false⟩ := fun r hr => by
    have := (St.row_some hr).1
    rw [new_get, if_pos rfl] at this
    obtain ⟨rty, rn, rt, rg, rtip, rex⟩ := r
    simp only [Option.some.injEq, Ent.cells.injEq] at this
    obtain ⟨rfl, rfl, rfl, rfl, rfl, rfl⟩ := this
    rfl
  refine ⟨fun b x hb => ?_, fun b ty n t g tip ex hb => ?_, fun b x hb => ?_, fun b c s hb => ?_, fun c hc => ?_, fun b r c' s hr hp => ?_, fun b k es c' s hb hp => ?_,
    fun b b' r r' c' s s' hne hr hr' hp hp' => ?_, fun b b' k k' es es' c' s s' hne hb hb' hp hp' => ?_, fun b b' r r' c' s s' hr ht hr' hp hp' => ?_, fun g x hg => ?_,
    fun b b' r r' c' s s' hne hr hr' ht ht' hp hp' => ?_⟩
  · rw [new_get] at hb
    rw [hnext]
    by_cases e1 : b = σ.next
    · omega
    · rw [if_neg e1] at hb; have := R.below _ _ hb; omega
  · rw [new_get] at hb
    rw [hnext]
    by_cases e1 : b = σ.next
    · rw [if_pos e1] at hb
      simp only [Option.some.injEq, Ent.cells.injEq] at hb
      have := R.below _ _ (hgn g hb.2.2.2.1); omega
    · rw [if_neg e1] at hb; have := R.gbelow _ _ _ _ _ _ _ hb; omega
  · rw [hnext]
    rcases φadd_eq hb with ⟨h1, _⟩ | ⟨_, h1⟩
    · omega
    · have := R.fresh _ _ h1; omega
  · simp only [Array.size_setIfInBounds]
    rcases φadd_eq hb with ⟨_, h1⟩ | ⟨_, h1⟩
    · cases h1; exact hcl
    · exact R.places _ _ _ h1
  · simp only [Array.size_setIfInBounds]; exact R.owned _ hc
  · rcases φadd_eq hp with ⟨h1, h2⟩ | ⟨h1, h2⟩
    · subst h1
      cases h2
      have := newrow r hr
      subst this
      refine ⟨ha, arr', new, by simp only [hs]; exact hroom, (fun hx => nomatch hx), fun i x hi hx => ?_⟩
      obtain ⟨v, h3, h4⟩ := hcells i x hi hx
      exact ⟨v, h3, VR.mono E x v h4⟩
    · have h0 := oldrow b r hr h1
      obtain ⟨ha', arr2, h3, h4, h5, h6⟩ := R.rows b r c' s h0 h2
      by_cases e : c' = c
      · subst e
        rw [hc] at h3
        simp only [Option.some.injEq, Obj.cells.injEq] at h3
        obtain ⟨rfl, rfl, _⟩ := h3
        obtain ⟨h7, _⟩ := hothers b r s h0 h2
        refine ⟨ha', arr', new, by omega, fun hx => by have := h5 hx; omega, fun i x hi hx => ?_⟩
        obtain ⟨v, h8, h9⟩ := h6 i x hi hx
        exact ⟨v, by rw [hsame _ (by omega)]; exact h8, VR.mono E x v h9⟩
      · refine ⟨ha', arr2, by rw [old c' e]; exact h3, h4, h5, fun i x hi hx => ?_⟩
        obtain ⟨v, h7, h8⟩ := h6 i x hi hx
        exact ⟨v, h7, VR.mono E x v h8⟩
  · rw [new_get] at hb
    rcases φadd_eq hp with ⟨h1, h2⟩ | ⟨h1, h2⟩
    · rw [if_pos h1] at hb; cases hb
    · rw [if_neg h1] at hb
      obtain ⟨ha', o', h3, h4⟩ := R.maps b k es c' s hb h2
      have e : c' ≠ c := fun e => by subst e; rw [hc] at h3; cases h3; exact h4
      exact ⟨ha', o', by rw [old c' e]; exact h3, OR.mono E h4⟩
  · rcases φadd_eq hp with ⟨h1, h2⟩ | ⟨h1, h2⟩ <;> rcases φadd_eq hp' with ⟨h3, h4⟩ | ⟨h3, h4⟩
    · exact (hne (h1.trans h3.symm)).elim
    · subst h1
      cases h2
      rw [newrow r hr]
      obtain ⟨_, _, _, g, h5, h6⟩ := hothers b' r' s' (oldrow b' r' hr' h3) h4
      exact ⟨g, h5, h6⟩
    · subst h3
      cases h4
      rw [newrow r' hr']
      obtain ⟨_, _, _, g, h5, h6⟩ := hothers b r s (oldrow b r hr h1) h2
      exact ⟨g, h6, h5⟩
    · exact R.apart b b' r r' c' s s' hne (oldrow b r hr h1) (oldrow b' r' hr' h3) h2 h4
  · rw [new_get] at hb hb'
    rcases φadd_eq hp with ⟨h1, h2⟩ | ⟨h1, h2⟩ <;> rcases φadd_eq hp' with ⟨h3, h4⟩ | ⟨h3, h4⟩
    · exact (hne (h1.trans h3.symm)).elim
    · rw [if_pos h1] at hb; cases hb
    · rw [if_pos h3] at hb'; cases hb'
    · rw [if_neg h1] at hb; rw [if_neg h3] at hb'
      exact R.mapart b b' k k' es es' c' s s' hne hb hb' h2 h4
  · rcases φadd_eq hp with ⟨h1, h2⟩ | ⟨h1, h2⟩ <;> rcases φadd_eq hp' with ⟨h3, h4⟩ | ⟨h3, h4⟩
    · subst h1; subst h3; cases h2; cases h4
      rw [hr] at hr'; cases hr'; exact Nat.le_refl _
    · subst h1
      cases h2
      rw [newrow r hr]
      obtain ⟨h5, _⟩ := hothers b' r' s' (oldrow b' r' hr' h3) h4
      simp only
      omega
    · subst h3
      cases h4
      obtain ⟨_, h5, _⟩ := hothers b r s (oldrow b r hr h1) h2
      rw [h5] at ht; cases ht
    · exact R.tips b b' r r' c' s s' (oldrow b r hr h1) ht (oldrow b' r' hr' h3) h2 h4
  · rw [new_get] at hg
    by_cases e1 : g = σ.next
    · rw [if_pos e1] at hg; cases hg
    · rw [if_neg e1] at hg
      unfold φadd; rw [if_neg e1]; exact R.fams g x hg
  · rcases φadd_eq hp with ⟨h1, h2⟩ | ⟨h1, h2⟩ <;> rcases φadd_eq hp' with ⟨h3, h4⟩ | ⟨h3, h4⟩
    · exact hne (h1.trans h3.symm)
    · cases h2
      obtain ⟨_, h5, _⟩ := hothers b' r' s' (oldrow b' r' hr' h3) h4
      rw [h5] at ht'; cases ht'
    · cases h4
      obtain ⟨_, h5, _⟩ := hothers b r s (oldrow b r hr h1) h2
      rw [h5] at ht; cases ht
    · exact R.onetip b b' r r' c' s s' hne (oldrow b r hr h1) (oldrow b' r' hr' h3) ht ht' h2 h4
end

end Go.Ev
/- append. -/
namespace Go.Ev
open Go
variable [Tok]

section
variable {P : Program} {σ : St} {φ : Place} {A : Nat → Prop} {w : World}

theorem all_one' {h : Array Obj} {cs : List AV} {vs : List Value} (hl : vs.length = cs.length) (hv : VRL φ A h cs (fun i => vs[i]?)) (hc : cs.all AV.isCell = true) : ∀ u ∈ vs, u.oneCell' = true := by
  have := all_one (w := { (default : World) with heap := h }) hl hv hc
  rw [List.all_eq_true] at this
  exact this

/-- What is appended. -/
theorem src_of (R : Rel σ φ A w.heap) {x : AV} {v : Value} (hx : VR φ A w.heap x v) {k n : Nat} {new : List AV} (hn : lenOfAV x = some n) (hf : firstAV σ k n x = some new) (hc : new.all AV.isCell = true)
    {xt : TypeId} (hk : (∃ e', P.underlying xt = some (.slice e')) ∨ P.underlying xt = some .string) :
    ∃ news : List Value, Src P k xt v n news w ∧ new.length = n * k ∧ VRL φ A w.heap new (fun i => news[i]?) := by
  cases x with
  | sl b off len kk cap =>
    simp [lenOfAV, lenAV] at hn
    subst hn
    simp only [firstAV] at hf
    obtain ⟨c, s, ad, cc, h1, rfl, h3, _, h5⟩ := slice_of_sl hx
    have hp : VR φ A w.heap (.ptr b off) (.pointer (some ⟨c, s + off, none⟩)) := by simp only [VR]; exact ⟨c, s, h1, rfl⟩
    obtain ⟨c', o', vs, h7, h8, h9, h10, h11⟩ := readCells_sound R hp hf
    cases h7
    have hcell : ∀ j u, vs[j]? = some u → w.cell? (ad.add j) = some u := fun j u hu => by
      rcases h5 with h5 | h5
      · have : vs.length = 0 := by rw [h9]; have : len = 0 := by omega
                                   rw [this, Nat.zero_mul]
        rw [List.getElem?_eq_none (by omega)] at hu; cases hu
      · rw [h5]; exact h10 j u hu
    exact ⟨vs, ⟨hk, fun _ => rfl, run_firstCells_some w k len ad len cc vs h9 hcell, run_firstCells_some w.drew k len ad len cc vs h9 (by simpa using hcell), h9, all_one' (by omega) h11 hc⟩, h8, h11⟩
  | psl len kk cells =>
    simp [lenOfAV, lenAV] at hn
    subst hn
    simp only [firstAV] at hf
    obtain ⟨hb, rfl⟩ := bif_some hf
    rw [nble, decide_eq_true_eq] at hb
    simp only [VR] at hx
    obtain ⟨ad, cc, rfl, h3, h4, h5⟩ := hx
    have hlen : (cells.take (len * k)).length = len * k := by simp; omega
    rcases h5 with h5 | ⟨s1, s2, s3, s4⟩
    · subst h5
      simp only [Nat.zero_mul, List.take_zero] at hlen ⊢
      exact ⟨[], ⟨hk, fun _ => rfl, run_firstCells_some w k 0 ad 0 cc [] (by simp) (fun j u hu => by cases hu), run_firstCells_some w.drew k 0 ad 0 cc [] (by simp) (fun j u hu => by cases hu), by simp, fun u hu => by cases hu⟩, rfl, by simp only [VRL]⟩
    · obtain ⟨blk, o, sp⟩ := ad
      simp only at s1
      subst s1
      have hl : VRL φ A w.heap (cells.take (len * k)) (fun i => hcell w.heap blk (o + i)) := VRL.of _ _ fun i x hx => by
        rw [List.getElem?_take] at hx
        split at hx
        · exact VRL.get _ _ s4 i x hx
        · cases hx
      obtain ⟨vs, h7, h8, h9⟩ := VRL.list _ _ hl
      have hcell : ∀ (j : Nat) u, vs[j]? = some u → w.cell? ((⟨blk, o, none⟩ : Addr).add j) = some u := fun j u hu => by
        have hj : j < (cells.take (len * k)).length := by rw [← h7]; exact (List.getElem?_eq_some_iff.1 hu).1
        rw [addr_add]
        exact cell?_hcell (by rw [← hu, ← h8 j hj])
      exact ⟨vs, ⟨hk, fun _ => rfl, run_firstCells_some w k len _ len cc vs (by omega) hcell, run_firstCells_some w.drew k len _ len cc vs (by omega) (by simpa using hcell), by omega, all_one' (by omega) h9 hc⟩, hlen, h9⟩
  | lit u =>
    simp only [VR] at hx
    subst hx
    cases v with
    | slice ad m c =>
      cases ad with
      | some a => simp [firstAV] at hf
      | none =>
        simp [lenOfAV, lenAV] at hn
        subst hn
        simp only [firstAV] at hf
        obtain ⟨hb, rfl⟩ := bif_some hf
        rw [nbeq, decide_eq_true_eq] at hb
        subst hb
        exact ⟨[], ⟨hk, fun _ => rfl, run_firstCells_none w k 0 0 c, run_firstCells_none w.drew k 0 0 c, by simp, fun u hu => by cases hu⟩, by simp, by simp only [VRL]⟩
    | string s =>
      simp [lenOfAV] at hn
      simp only [firstAV] at hf
      obtain ⟨hb, rfl⟩ := bif_some hf
      simp only [Bool.and_eq_true, nbeq, decide_eq_true_eq] at hb
      obtain ⟨rfl, _⟩ := hb
      have hsz : s.size = n := hn
      refine ⟨byteCells s, ⟨hk, fun _ => by subst hsz; rfl, by rw [← hsz]; exact firstCells_string s w, by rw [← hsz]; exact firstCells_string s w.drew, by rw [byteCells_length, Nat.mul_one, hsz], fun u hu => ?_⟩, ?_, ?_⟩
      · obtain ⟨_, _, rfl⟩ := List.mem_map.1 hu
        rfl
      · simp [hn]
      · refine VRL.of _ _ fun i x hx => ?_
        unfold byteCells
        rw [List.getElem?_map] at hx ⊢
        cases hq : s.data.toList[i]? with
        | none => rw [hq] at hx; cases hx
        | some q =>
          rw [hq] at hx
          cases hx
          exact ⟨_, rfl, by simp only [VR]⟩
    | _ => simp [firstAV] at hf
  | _ => simp [firstAV] at hf

/-- A row grows: its new place. -/
theorem grown (R : Rel σ φ A w.heap) (T : Tot σ φ) {e : TypeId} {k n need old : Nat} {t : Tr AV} {g : Option Nat} {olds news : List Value} {zs : Array Value} (hg : ∀ x, g = some x → σ.tr.get x = some (.fam true))
    (hneed : need * k = n) (hn : (olds ++ news).length = n) (hz : zs.size = k) (hc : ∀ i x, i < n → t.get i = some x → ∃ v, (olds ++ news)[i]? = some v ∧ VR φ A w.heap x v) :
    let w' := w.drew.alloc (.cells ((olds ++ news).toArray ++ Builtin.zeroCells zs (grownCap w need old e - need)) e)
    Behind (σ.new (.cells e n t g true false)).2 φ A w (φadd φ σ.next (w.heap.size, 0)) (fun c => A c ∨ c = w.heap.size) w' ∧
      VR (φadd φ σ.next (w.heap.size, 0)) (fun c => A c ∨ c = w.heap.size) w'.heap (.sl σ.next 0 need k none) (.slice (some ⟨w.heap.size, 0, none⟩) need (grownCap w need old e)) := by
  intro w'
  have hh : w'.heap = w.heap.push (.cells ((olds ++ news).toArray ++ Builtin.zeroCells zs (grownCap w need old e - need)) e) := rfl
  have hge := grownCap_ge w need old e
  have hsize : ((olds ++ news).toArray ++ Builtin.zeroCells zs (grownCap w need old e - need)).size = grownCap w need old e * k := by
    have : (olds ++ news).toArray.size = n := by simpa using hn
    rw [Array.size_append, this]
    have h2 : (Builtin.zeroCells zs (grownCap w need old e - need)).size = (grownCap w need old e - need) * k := by
      unfold Builtin.zeroCells; simp [hz]
    rw [h2, ← hneed, ← Nat.add_mul]
    congr 1
    omega
  have R' := R.new (.cells e n t g true false) (.cells ((olds ++ news).toArray ++ Builtin.zeroCells zs (grownCap w need old e - need)) e)
    (fun x he => by cases he) (fun ty n t g tip ex he => by
      simp only [Ent.cells.injEq] at he
      exact R.below _ _ (hg g he.2.2.2.1))
    (fun ty n' t' g' tip ex he => by
      simp only [Ent.cells.injEq] at he
      obtain ⟨rfl, rfl, rfl, rfl, rfl, rfl⟩ := he
      refine ⟨_, rfl, ?_, fun hx => (nomatch hx), fun i x hi hx => ?_⟩
      · rw [hsize, ← hneed]; exact Nat.mul_le_mul_right k hge
      · obtain ⟨v, h1, h2⟩ := hc i x hi hx
        refine ⟨v, ?_, h2⟩
        rw [Array.getElem?_append, if_pos (by simp only [List.size_toArray]; omega)]
        simpa using h1)
    (fun k es he => by cases he)
  refine ⟨⟨by rw [hh]; exact R', T.new _ _, by rw [hh]; exact ext_push R.place_next _, ⟨rfl, rfl, rfl⟩, by rw [hh]; exact Keeps.push _ _⟩, ?_⟩
  rw [hh]
  simp only [VR]
  refine ⟨w.heap.size, 0, _, _, by unfold φadd; rw [if_pos rfl], rfl, hge, (fun q hq => nomatch hq), .inr rfl, _, e, (0, 0), by rw [push_get, if_pos rfl], ?_⟩
  rw [hsize]
  omega
end
end Go.Ev
/- append: the whole. -/
namespace Go.Ev
open Go
variable [Tok]

section
variable {P : Program} {σ : St} {φ : Place} {A : Nat → Prop} {w : World}

omit [Tok] in
theorem put_row {b ty n : Nat} {t : Tr AV} {g : Nat} {tip ex : Bool} {e0 : Ent} (hb : σ.tr.get b = some e0) (he : ∀ x, e0 ≠ .fam x) {b' : Nat} {r : Row} (hr : (σ.put b (.cells ty n t (some g) tip ex)).row b' = some r) :
    (b' = b ∧ r = ⟨ty, n, t, some g, tip, ex⟩ ∧ (g ≠ b → σ.tr.get g = some (.fam true))) ∨ (b' ≠ b ∧ σ.row b' = some r) := by
  obtain ⟨h1, h2⟩ := St.row_some hr
  rw [put_get] at h1
  by_cases e : b' = b
  · rw [if_pos e] at h1
    obtain ⟨rty, rn, rt, rg, rtip, rex⟩ := r
    simp only [Option.some.injEq, Ent.cells.injEq] at h1
    obtain ⟨rfl, rfl, rfl, rfl, rfl, rfl⟩ := h1
    left
    refine ⟨e, rfl, fun hne => ?_⟩
    have h3 := h2 g rfl
    rw [put_get, if_neg hne] at h3
    exact h3
  · rw [if_neg e] at h1
    right
    refine ⟨e, ?_⟩
    have := St.row_of h1 (fun y hy => by
      have h3 := h2 y hy
      rw [put_get] at h3
      by_cases e2 : y = b
      · rw [if_pos e2] at h3; cases h3
      · rw [if_neg e2] at h3; exact h3)
    exact this

omit [Tok] in
theorem kill_row {g : Nat} {b' : Nat} {r : Row} (hr : (σ.put g (.fam false)).row b' = some r) : σ.row b' = some r ∧ r.grp ≠ some g := by
  obtain ⟨h1, h2⟩ := St.row_some hr
  rw [put_get] at h1
  by_cases e : b' = g
  · rw [if_pos e] at h1; cases h1
  · rw [if_neg e] at h1
    refine ⟨?_, fun hg => ?_⟩
    · have := St.row_of h1 (fun y hy => by
        have h3 := h2 y hy
        rw [put_get] at h3
        by_cases e2 : y = g
        · rw [if_pos e2] at h3; cases h3
        · rw [if_neg e2] at h3; exact h3)
      exact this
    · have h3 := h2 g hg
      rw [put_get, if_pos rfl] at h3
      cases h3

/-- Cells stored behind what is known of an array; a new row is told of it. -/
theorem placed (R : Rel σ φ A w.heap) (T : Tot σ φ) {c s0 ty n p need cc k : Nat} {arr : Array Value} {t : Tr AV} {gn : Option Nat} {news : List Value} (hpl : ∃ b s, φ b = some (c, s)) (ha : A c) (hc : w.heap[c]? = some (Obj.cells arr ty (0, 0)))
    (hend : p + news.length = s0 + n) (hroom : s0 + cc * k ≤ arr.size) (hneed : need * k = n) (hcc : need ≤ cc) (hle : s0 ≤ p)
    (hothers : ∀ b r s, σ.row b = some r → φ b = some (c, s) → s + r.n ≤ p ∧ r.tip = false ∧ r.ex = r.ex ∧ ∃ g, gn = some g ∧ r.grp = some g)
    (hgn : ∀ g, gn = some g → σ.tr.get g = some (.fam true))
    (hcells : ∀ i x, i < n → t.get i = some x → ∃ v, (wr arr p news)[s0 + i]? = some v ∧ VR φ A w.heap x v) :
    let w' : World := { w with heap := w.heap.setIfInBounds c (Obj.cells (wr arr p news) ty (0, 0)) }
    Behind (σ.new (.cells ty n t gn true false)).2 φ A w (φadd φ σ.next (c, s0)) A w' ∧
      VR (φadd φ σ.next (c, s0)) A w'.heap (.sl σ.next 0 need k none) (.slice (some ⟨c, s0, none⟩) need cc) := by
  intro w'
  have hn : s0 + n ≤ arr.size := by have := Nat.mul_le_mul_right k hcc; omega
  obtain ⟨h1, h2⟩ := R.place (t := t) (gn := gn) ha hc (wr_size arr p news) (s0 := s0) (n := n) (p := p) (fun i hi => by rw [wr_get _ _ _ _ (by omega), if_neg (by omega)]) (by omega) hn hothers hgn hcells
  obtain ⟨b0, s00, hpl⟩ := hpl
  refine ⟨⟨h1, T.new _ _, h2, ⟨rfl, rfl, rfl⟩, Keeps.place hpl _ _ _⟩, ?_⟩
  simp only [VR]
  refine ⟨c, s0, _, cc, by unfold φadd; rw [if_pos rfl], rfl, hcc, (fun q hq => nomatch hq), .inr rfl, wr arr p news, ty, (0, 0), by simp only [w']; rw [set_get _ _ _ (lt_of_get hc), if_pos rfl], by rw [wr_size]; omega⟩

omit [Tok] in
theorem room_world {ty : TypeId} {c o : Nat} {arr : Array Value} {news : List Value} (hc : w.heap[c]? = some (Obj.cells arr ty (0, 0))) (hs : o + news.length ≤ arr.size) (h1 : ∀ u ∈ news, u.oneCell' = true) :
    w.setCells c o news = { w with heap := w.heap.setIfInBounds c (Obj.cells (wr arr o news) ty (0, 0)) } := by
  have a1 := run_storeCells_cells (P := (default : Program)) c o news 0 w (fun j hj => by rw [cell?_of hc]; simp; omega) (fun j hj => by unfold World.frozen?; simp [hc]) h1
  have a2 := run_storeCells (P := (default : Program)) (ty := ty) (c := c) (o := o) news 0 w arr hc (by omega) (by rw [List.all_eq_true]; exact h1)
  rw [a1] at a2
  simpa using a2

omit [Tok] in
theorem kind_of {xt : TypeId} {u : Unit} (h : (match P.underlying xt with | some (.slice _) => some () | some .string => some () | _ => none) = some u) :
    (∃ e', P.underlying xt = some (.slice e')) ∨ P.underlying xt = some .string := by
  split at h
  · rename_i e he; exact .inl ⟨e, he⟩
  · rename_i he; exact .inr he
  · cases h

theorem Behind.same (R : Rel σ φ A w.heap) (T : Tot σ φ) : Behind σ φ A w φ A w := ⟨R, T, Ext.refl _ _ _, WX.refl _, Keeps.refl _ _ _⟩

set_option maxHeartbeats 1000000 in
theorem appendAV_sound (R : Rel σ φ A w.heap) (T : Tot σ φ) {st xt : TypeId} {s x r : AV} {vs vx : Value} {σ' : St} (hs : VR φ A w.heap s vs) (hx : VR φ A w.heap x vx) (h : appendAV P σ st xt s x = some (r, σ')) (ty : TypeId) :
    ∃ v w' φ' A', (Builtin.append_ #[st, xt] ty #[vs, vx]).run P w = .ok v w' ∧ Behind σ' φ A w φ' A' w' ∧ VR φ' A' w'.heap r v := by
  unfold appendAV at h
  split at h
  case h_2 => cases h
  rename_i e u hes hkind
  have ht := elemOfSlice_spec hes
  have hk := kind_of hkind
  split at h
  case h_2 => cases h
  rename_i k bytes n hsz hby hn
  split at h
  · cases h
  rename_i new hf
  obtain ⟨hb, h⟩ := bif_not h
  simp only [Bool.or_eq_false_iff, nbeq, decide_eq_false_iff_not, Bool.not_eq_false'] at hb
  obtain ⟨hb1, hb2, hb3, hb4⟩ := hb
  obtain ⟨news, hsrc, hnl, hnews⟩ := src_of R hx hn hf hb3 hk
  -- the element type
  obtain ⟨i, hi, hi1, hi2, z, hz, hzs⟩ : ∃ i, P.info? e = some i ∧ i.size = k ∧ i.bytes = bytes ∧ ∃ z, i.zero = some z ∧ z.cells.size = k := by
    unfold sizeOfP at hsz
    simp only [Option.map_eq_some_iff] at hsz
    obtain ⟨i, h1, h2⟩ := hsz
    unfold bytesOfP at hby
    rw [h1] at hby
    simp only [Option.map_some, Option.some.injEq] at hby
    split at hb4
    · rename_i zs hzs
      unfold zeroOf at hzs
      rw [h1] at hzs
      simp only [Option.bind_some, Option.map_eq_some_iff] at hzs
      obtain ⟨z, h3, h4⟩ := hzs
      refine ⟨i, h1, h2, hby, z, h3, ?_⟩
      have := (VR.cells (φ := fun _ => none) (A := fun _ => False) (h := #[]) (x := .lit z) (v := z) (by simp only [VR])).1
      rw [this, h4]
      simpa [nbeq] using hb4
    · cases hb4
  subst hi1
  have grow : ∀ (base : Option Addr) (len cap : Nat) (olds : List Value), (Builtin.firstCells i.size len (.slice base len cap)).run P w.drew = .ok olds.toArray w.drew → cap < len + n → (len + n) * bytes ≤ 1000000000 →
      (Builtin.append_ #[st, xt] ty #[.slice base len cap, vx]).run P w = .ok (.slice (some ⟨w.heap.size, 0, none⟩) (len + n) (grownCap w (len + n) cap e))
        (w.drew.alloc (.cells ((olds ++ news).toArray ++ Builtin.zeroCells z.cells (grownCap w (len + n) cap e - (len + n))) e)) := fun base len cap olds ho hg hbd => by
    have hle : len + n ≤ (len + n) * bytes := Nat.le_mul_of_pos_right _ (Nat.pos_of_ne_zero hb1)
    exact run_append_grow_src w st xt ty e i z ht hi hz base len cap olds ho vx n news hsrc hg (by omega) (growslice_fits hg (by rw [hi2]; omega))
  have nothing : n = 0 → ∀ (base : Option Addr) (len cap : Nat), len ≤ cap → vs = .slice base len cap → r = s → σ' = σ →
      ∃ v w' φ' A', (Builtin.append_ #[st, xt] ty #[vs, vx]).run P w = .ok v w' ∧ Behind σ' φ A w φ' A' w' ∧ VR φ' A' w'.heap r v := fun hn0 base len cap hle hv hr hσ => by
    subst hn0 hr hσ
    have hnn : news = [] := by
      have := hsrc.newsLen
      simp only [Nat.zero_mul] at this
      exact List.length_eq_zero_iff.1 this
    subst hnn
    refine ⟨vs, w, φ, A, ?_, Behind.same R T, hs⟩
    rw [hv]
    exact run_append_nothing w st xt ty e i ht hi base len cap hle vx hsrc
  have newslen := hsrc.newsLen
  split at h
  case h_4 => cases h
  case h_1 =>
    rename_i len cap
    simp only [VR] at hs
    obtain ⟨hb5, h⟩ := bif_bind h
    simp only [Bool.and_eq_true, nbeq, decide_eq_true_eq] at hb5
    obtain ⟨rfl, rfl⟩ := hb5
    cases hn0 : Nat.beq n 0 with
    | true =>
      rw [hn0] at h
      simp only [cond_true, Option.some.injEq, Prod.mk.injEq] at h
      rw [nbeq, decide_eq_true_eq] at hn0
      exact nothing hn0 none 0 0 (Nat.le_refl _) hs h.1.symm h.2.symm
    | false =>
      rw [hn0] at h
      simp only [cond_false] at h
      obtain ⟨hb6, h⟩ := bif_some h
      rw [nble, decide_eq_true_eq] at hb6
      rw [nbeq, decide_eq_false_iff_not] at hn0
      cases h
      rw [hs]
      have hg := grow none 0 0 [] (run_firstCells_none _ _ _ _ _) (by omega) (by simpa using hb6)
      simp only [Nat.zero_add] at hg
      obtain ⟨h7, h8⟩ := grown (w := w) R T (e := e) (k := i.size) (n := n * i.size) (need := n) (old := 0) (t := trOf new) (g := none) (olds := []) (news := news) (zs := z.cells) (fun x hx => nomatch hx) rfl (by simpa using newslen) hzs
        (fun j x hj hx => by
          rw [trOf_get] at hx
          simpa using VRL.get _ _ hnews j x hx)
      exact ⟨_, _, _, _, hg, h7, h8⟩
  case h_2 =>
    rename_i len kk cells _
    obtain ⟨hb5, h⟩ := bif_some h
    rw [nbeq, decide_eq_true_eq] at hb5
    cases h
    have hs' := hs
    simp only [VR] at hs'
    obtain ⟨ad, cc, h1, h2, _⟩ := hs'
    exact nothing hb5 (some ad) len cc h2 h1 rfl rfl
  case h_3 =>
    rename_i b off len k' cap _
    obtain ⟨c, s, ad, cc, hp, hvs, hlen, hcap, had⟩ := slice_of_sl hs
    have hroom : ∃ row t fr, w.heap[c]? = some (Obj.cells row t fr) ∧ s + off + cc * k' ≤ row.size := by
      have hs' := hs
      simp only [VR] at hs'
      obtain ⟨c', s', ad', cc', g1, g2, _, _, _, g3⟩ := hs'
      rw [hp] at g1
      cases g1
      rw [hvs] at g2
      cases g2
      exact g3
    cases hn0 : Nat.beq n 0 with
    | true =>
      rw [hn0] at h
      simp only [cond_true, Option.some.injEq, Prod.mk.injEq] at h
      rw [nbeq, decide_eq_true_eq] at hn0
      exact nothing hn0 (some ad) len cc hlen hvs h.1.symm h.2.symm
    | false =>
      rw [hn0] at h
      simp only [cond_false] at h
      rw [nbeq, decide_eq_false_iff_not] at hn0
      obtain ⟨hk1, h5⟩ := bif_not h
      clear h
      obtain ⟨hbd, h6⟩ := bif_not h5
      clear h5
      simp only [nbeq, Bool.not_eq_false', decide_eq_true_eq] at hk1
      simp only [nble, Bool.not_eq_false', decide_eq_true_eq] at hbd
      subst hk1
      split at h6
      · cases h6
      · rename_i ty' m t g tip ex hr
        obtain ⟨ha, arr, hc, hsm, hex, hcells⟩ := R.rows b _ c s hr hp
        simp only at hc hsm hex hcells
        obtain ⟨row', t'', fr', hrow', hroom⟩ := hroom
        rw [hc] at hrow'
        simp only [Option.some.injEq, Obj.cells.injEq] at hrow'
        obtain ⟨rfl, rfl, rfl⟩ := hrow'
        have hmul : (len + n) * i.size = len * i.size + n * i.size := Nat.add_mul _ _ _
        have hbent := (St.row_some hr).1
        have hbfam := (St.row_some hr).2
        simp only at hbent hbfam
        have hip : 0 < i.size := Nat.pos_of_ne_zero hb2
        -- what the old slice's cells are
        have folds : off + len * i.size ≤ m → ∃ olds : List Value, olds.length = len * i.size ∧ (∀ j, j < len * i.size → olds[j]? = arr[s + off + j]?) ∧
            ∀ W : World, W.heap = w.heap → (Builtin.firstCells i.size len (.slice (some ad) len cc)).run P W = .ok olds.toArray W := fun hst => by
          refine ⟨(arr.extract (s + off) (s + off + len * i.size)).toList, by simp; omega, fun j hj => ?_, fun W hW => ?_⟩
          · rw [Array.getElem?_toList, Array.getElem?_extract, if_pos (by omega)]
          · refine run_firstCells_some W i.size len ad len cc _ (by simp; omega) (fun j u hu => ?_)
            have hj : j < len * i.size := by
              have := (List.getElem?_eq_some_iff.1 hu).1
              simp at this; omega
            rcases had with h0 | h0
            · have : len = 0 := by omega
              subst this; simp at hj
            · rw [h0, addr_add, cell?_of (by rw [hW]; exact hc)]
              rw [Array.getElem?_toList, Array.getElem?_extract, if_pos (by omega)] at hu
              exact hu
        -- how it grows
        have doGrow : ∀ (σ₂ : St) (t' : Tr AV) (g' : Option Nat), Rel σ₂ φ A w.heap → Tot σ₂ φ → (∀ x, g' = some x → σ₂.tr.get x = some (.fam true)) → off + len * i.size ≤ m → cc < len + n →
            (∀ olds : List Value, olds.length = len * i.size → (∀ j, j < len * i.size → olds[j]? = arr[s + off + j]?) → ∀ j x, j < (len + n) * i.size → t'.get j = some x → ∃ v, (olds ++ news)[j]? = some v ∧ VR φ A w.heap x v) →
            ∃ v w' φ' A', (Builtin.append_ #[st, xt] ty #[vs, vx]).run P w = .ok v w' ∧ Behind (σ₂.new (.cells e ((len + n) * i.size) t' g' true false)).2 φ A w φ' A' w' ∧
              VR φ' A' w'.heap (.sl σ₂.next 0 (len + n) i.size none) v := fun σ₂ t' g' R₂ T₂ hg' hst hlt hcl => by
          obtain ⟨olds, o1, o2, o3⟩ := folds hst
          have hg := grow (some ad) len cc olds (o3 w.drew rfl) hlt hbd
          obtain ⟨h7, h8⟩ := grown (w := w) R₂ T₂ (e := e) (k := i.size) (n := (len + n) * i.size) (need := len + n) (old := cc) (t := t') (g := g') (olds := olds) (news := news) (zs := z.cells) hg' rfl
            (by rw [List.length_append, o1, newslen, hmul]) hzs (hcl olds o1 o2)
          exact ⟨_, _, _, _, by rw [hvs]; exact hg, h7, h8⟩
        -- how it stays
        have doStay : ∀ (σ₂ : St) (t' : Tr AV) (gn : Option Nat), Rel σ₂ φ A w.heap → Tot σ₂ φ → (∀ x, gn = some x → σ₂.tr.get x = some (.fam true)) → off + len * i.size ≤ m → len + n ≤ cc → ty' = e →
            (∀ b r s', σ₂.row b = some r → φ b = some (c, s') → s' + r.n ≤ s + off + len * i.size ∧ r.tip = false ∧ r.ex = r.ex ∧ ∃ g, gn = some g ∧ r.grp = some g) →
            (∀ j x, j < (len + n) * i.size → t'.get j = some x → ∃ v, (wr arr (s + off + len * i.size) news)[s + off + j]? = some v ∧ VR φ A w.heap x v) →
            ∃ v w' φ' A', (Builtin.append_ #[st, xt] ty #[vs, vx]).run P w = .ok v w' ∧ Behind (σ₂.new (.cells e ((len + n) * i.size) t' gn true false)).2 φ A w φ' A' w' ∧
              VR φ' A' w'.heap (.sl σ₂.next 0 (len + n) i.size none) v := fun σ₂ t' gn R₂ T₂ hg' hst hle hty hoth hcl => by
          subst hty
          have had' : ad = ⟨c, s + off, none⟩ := by
            rcases had with h0 | h0
            · omega
            · exact h0
          have hroom2 : s + off + len * i.size + news.length ≤ arr.size := by
            have := Nat.mul_le_mul_right i.size hle
            omega
          have hrun := run_append_room_src w st xt ty ty' i ht hi c (s + off) len cc vx n news hsrc hle
            (fun j hj => by rw [cell?_of hc]; simp; omega) (fun j hj => by unfold World.frozen?; simp [hc])
          rw [room_world hc hroom2 hsrc.one] at hrun
          obtain ⟨h7, h8⟩ := placed (w := w) R₂ T₂ (c := c) (s0 := s + off) (ty := ty') (n := (len + n) * i.size) (p := s + off + len * i.size) (need := len + n) (cc := cc) (k := i.size) (arr := arr) (t := t') (gn := gn) (news := news)
            ⟨_, _, hp⟩ ha hc (by omega) hroom rfl hle (by omega) hoth hg' hcl
          exact ⟨_, _, _, _, by rw [hvs, had']; exact hrun, h7, h8⟩
        -- the cells of the new row
        have toGrow : ∀ t' : Tr AV, (∀ j x, j < (len + n) * i.size → t'.get j = some x → ∃ v, VR φ A w.heap x v ∧ (if j < len * i.size then arr[s + off + j]? else news[j - len * i.size]?) = some v) →
            ∀ olds : List Value, olds.length = len * i.size → (∀ j, j < len * i.size → olds[j]? = arr[s + off + j]?) → ∀ j x, j < (len + n) * i.size → t'.get j = some x → ∃ v, (olds ++ news)[j]? = some v ∧ VR φ A w.heap x v :=
          fun t' ht' olds o1 o2 j x hj hx => by
            obtain ⟨v, h1, h2⟩ := ht' j x hj hx
            refine ⟨v, ?_, h1⟩
            rw [List.getElem?_append]
            by_cases e1 : j < len * i.size
            · rw [if_pos e1] at h2
              rw [if_pos (by omega), o2 j e1]; exact h2
            · rw [if_neg e1] at h2
              rw [if_neg (by omega), o1]; exact h2
        have toStay : off + len * i.size ≤ m → ∀ t' : Tr AV, (∀ j x, j < (len + n) * i.size → t'.get j = some x → ∃ v, VR φ A w.heap x v ∧ (if j < len * i.size then arr[s + off + j]? else news[j - len * i.size]?) = some v) → len + n ≤ cc →
            ∀ j x, j < (len + n) * i.size → t'.get j = some x → ∃ v, (wr arr (s + off + len * i.size) news)[s + off + j]? = some v ∧ VR φ A w.heap x v :=
          fun hst t' ht' hle j x hj hx => by
            obtain ⟨v, h1, h2⟩ := ht' j x hj hx
            refine ⟨v, ?_, h1⟩
            have := Nat.mul_le_mul_right i.size hle
            rw [wr_get _ _ _ _ (by omega)]
            by_cases e1 : j < len * i.size
            · rw [if_pos e1] at h2
              rw [if_neg (by omega)]; exact h2
            · rw [if_neg e1] at h2
              rw [if_pos (by omega)]
              rw [← h2]
              congr 1
              omega
        have fromOld : ∀ old : List AV, takeCells t off (len * i.size) = some old → off + len * i.size ≤ m →
            ∀ j x, j < (len + n) * i.size → (trOf (old ++ new)).get j = some x → ∃ v, VR φ A w.heap x v ∧ (if j < len * i.size then arr[s + off + j]? else news[j - len * i.size]?) = some v := fun old hold hst j x hj hx => by
          obtain ⟨h1, h2⟩ := takeCells_get t _ off old hold
          rw [trOf_get, List.getElem?_append, h1] at hx
          by_cases e1 : j < len * i.size
          · rw [if_pos e1] at hx ⊢
            rw [← h2 j e1] at hx
            obtain ⟨v, h3, h4⟩ := hcells (off + j) x (by omega) hx
            exact ⟨v, h4, by rw [← Nat.add_assoc] at h3; exact h3⟩
          · rw [if_neg e1] at hx ⊢
            obtain ⟨v, h3, h4⟩ := VRL.get _ _ hnews _ _ hx
            exact ⟨v, h4, h3⟩
        cases cap with
        | some q =>
          simp only at h6
          have hq := hcap q rfl
          subst hq
          cases hb7 : Nat.ble (len + n) cc with
          | true =>
            rw [hb7] at h6
            simp only [cond_true] at h6
            obtain ⟨hb8, h7⟩ := bif_some h6
            rw [nble, decide_eq_true_eq] at hb7 hb8
            cases h7
            have had' : ad = ⟨c, s + off, none⟩ := by
              rcases had with h0 | h0
              · omega
              · exact h0
            have hrun := run_append_room_src w st xt ty e i ht hi c (s + off) len cc vx n news hsrc hb7
              (fun j hj => by rw [cell?_of hc]; simp; omega) (fun j hj => by unfold World.frozen?; simp [hc])
            rw [room_world hc (by omega) hsrc.one] at hrun
            have hE := ext_set (φ := φ) ha hc (wr_size arr (s + off + len * i.size) news)
            have hR := R.wrote hr hp hc (wr_size arr (s + off + len * i.size) news) (setCells t (off + len * i.size) new) (fun j x hj hx => by
              rw [setCells_get] at hx
              rw [wr_get _ _ _ _ (by omega)]
              by_cases e1 : off + len * i.size ≤ j ∧ j < off + len * i.size + new.length
              · rw [if_pos e1] at hx
                rw [if_pos (by omega)]
                obtain ⟨v, h8, h9⟩ := VRL.get _ _ hnews _ _ hx
                refine ⟨v, ?_, h9⟩
                rw [← h8]
                congr 1
                omega
              · rw [if_neg e1] at hx
                rw [if_neg (by omega)]
                exact hcells j x hj hx)
            refine ⟨_, { w with heap := w.heap.setIfInBounds c (Obj.cells (wr arr (s + off + len * i.size) news) ty' (0, 0)) }, φ, A, by rw [hvs, had']; exact hrun, ⟨hR, T.wrote hr _, hE, ⟨rfl, rfl, rfl⟩, Keeps.set hp _⟩, ?_⟩
            simp only [VR]
            exact ⟨c, s, _, cc, hp, rfl, hb7, fun q hq => by cases hq; rfl, .inr rfl, wr arr (s + off + len * i.size) news, ty', (0, 0), by rw [set_get _ _ _ (lt_of_get hc), if_pos rfl], by rw [wr_size]; exact hroom⟩
          | false =>
            rw [hb7] at h6
            simp only [cond_false] at h6
            rw [nble, decide_eq_false_iff_not] at hb7
            obtain ⟨hb8, h7⟩ := bif_not h6
            clear h6
            simp only [nble, Bool.not_eq_false', decide_eq_true_eq] at hb8
            split at h7
            · cases h7
            · rename_i old hold
              cases h7
              have hst : off + len * i.size ≤ m := hb8
              exact doGrow σ _ none R T (fun x hx => nomatch hx) hst (by omega) (toGrow _ (fromOld old hold hst))
        | none =>
          simp only at h6
          obtain ⟨hb7, h7⟩ := bif_not h6
          clear h6
          simp only [Bool.not_eq_false', Bool.and_eq_true, nble, nbeq, decide_eq_true_eq] at hb7
          obtain ⟨hst, hty⟩ := hb7
          split at h7
          · cases h7
          · rename_i t' ht'
            have hcl : ∀ j x, j < (len + n) * i.size → t'.get j = some x → ∃ v, VR φ A w.heap x v ∧ (if j < len * i.size then arr[s + off + j]? else news[j - len * i.size]?) = some v := by
              cases h0 : Nat.beq off 0 with
              | true =>
                rw [h0] at ht'
                simp only [cond_true, Option.some.injEq] at ht'
                rw [nbeq, decide_eq_true_eq] at h0
                subst h0
                intro j x hj hx
                rw [← ht', setCells_get] at hx
                by_cases e1 : j < len * i.size
                · rw [if_neg (by omega)] at hx
                  rw [if_pos e1]
                  obtain ⟨v, h3, h4⟩ := hcells j x (by omega) hx
                  exact ⟨v, h4, h3⟩
                · rw [if_pos (by omega)] at hx
                  rw [if_neg e1]
                  obtain ⟨v, h3, h4⟩ := VRL.get _ _ hnews _ _ hx
                  refine ⟨v, h4, ?_⟩
                  rw [← h3]
                  congr 1
                  omega
              | false =>
                rw [h0] at ht'
                simp only [cond_false, Option.map_eq_some_iff] at ht'
                obtain ⟨old, h1, rfl⟩ := ht'
                exact fromOld old h1 hst
            have go : ∀ (σ₂ : St) (gn : Option Nat), Rel σ₂ φ A w.heap → Tot σ₂ φ → (∀ x, gn = some x → σ₂.tr.get x = some (.fam true)) →
                (∀ b r s', σ₂.row b = some r → φ b = some (c, s') → s' + r.n ≤ s + off + len * i.size ∧ r.tip = false ∧ r.ex = r.ex ∧ ∃ g, gn = some g ∧ r.grp = some g) →
                ∃ v w' φ' A', (Builtin.append_ #[st, xt] ty #[vs, vx]).run P w = .ok v w' ∧ Behind (σ₂.new (.cells e ((len + n) * i.size) t' gn true false)).2 φ A w φ' A' w' ∧
                  VR φ' A' w'.heap (.sl σ₂.next 0 (len + n) i.size none) v := fun σ₂ gn R₂ T₂ hg' hoth => by
              by_cases hle : len + n ≤ cc
              · exact doStay σ₂ t' gn R₂ T₂ hg' hst hle hty hoth (toStay hst t' hcl hle)
              · exact doGrow σ₂ t' gn R₂ T₂ hg' hst (by omega) (toGrow t' hcl)
            have hbne : b < σ.next := R.below _ _ hbent
            have hn1 : ∀ x, (σ.new (.fam x)).2.tr.get b = some (.cells ty' m t g tip ex) := fun x => by rw [new_get, if_neg (by omega)]; exact hbent
            have hn2 : ∀ x, (σ.new (.fam x)).2.tr.get σ.next = some (.fam x) := fun x => by rw [new_get, if_pos rfl]
            cases hb9 : (tip && Nat.beq (off + len * i.size) m) with
            | true =>
              rw [hb9] at h7
              simp only [cond_true] at h7
              simp only [Bool.and_eq_true, nbeq, decide_eq_true_eq] at hb9
              obtain ⟨rfl, hstm⟩ := hb9
              cases g with
              | some g =>
                cases h7
                have hgf := hbfam g rfl
                have hgb : g ≠ b := fun e => by subst e; rw [hbent] at hgf; cases hgf
                have R₂ := R.retag hbent hbfam (x := true) hgf (.inr rfl)
                refine go (σ.put b (.cells ty' m t (some g) false ex)) (some g) R₂ (T.put hbent (fun y hy => by cases hy)) (fun x hx => by cases hx; rw [put_get, if_neg hgb]; exact hgf) ?_
                intro b2 r2 s2 hr2 hp2
                rcases put_row hbent (fun y hy => by cases hy) hr2 with ⟨rfl, rfl, _⟩ | ⟨hne, h8⟩
                · rw [hp] at hp2; cases hp2
                  exact ⟨by simp only; omega, rfl, rfl, g, rfl, rfl⟩
                · obtain ⟨g2, h9, h10⟩ := R.apart b b2 _ r2 c s s2 (Ne.symm hne) hr h8 hp hp2
                  have h11 := R.tips b b2 _ r2 c s s2 hr rfl h8 hp hp2
                  simp only at h9 h11
                  refine ⟨by omega, ?_, rfl, g, rfl, by rw [h10, ← h9]⟩
                  cases htip : r2.tip with
                  | false => rfl
                  | true => exact (R.onetip b b2 _ r2 c s s2 (Ne.symm hne) hr h8 rfl htip hp hp2).elim
              | none =>
                cases h7
                have R₁ := R.newFam true
                have R₂ := R₁.retag (hn1 true) (fun x hx => nomatch hx) (hn2 true) (.inl rfl)
                refine go ((σ.new (.fam true)).2.put b (.cells ty' m t (some σ.next) false ex)) (some σ.next) R₂ ((T.newFam true).put (hn1 true) (fun y hy => by cases hy)) (fun x hx => by cases hx; rw [put_get, if_neg (by omega)]; exact hn2 true) ?_
                intro b2 r2 s2 hr2 hp2
                rcases put_row (hn1 true) (fun y hy => by cases hy) hr2 with ⟨rfl, rfl, _⟩ | ⟨hne, h8⟩
                · rw [hp] at hp2; cases hp2
                  exact ⟨by simp only; omega, rfl, rfl, σ.next, rfl, rfl⟩
                · rw [row_new R.gbelow (.fam true) b2 (fam_row h8)] at h8
                  obtain ⟨g2, h9, h10⟩ := R.apart b b2 _ r2 c s s2 (Ne.symm hne) hr h8 hp hp2
                  cases h9
            | false =>
              rw [hb9] at h7
              simp only [cond_false] at h7
              cases g with
              | some g =>
                cases h7
                have hgf := hbfam g rfl
                refine go (σ.put g (.fam false)) none (R.killFam hgf) T.killFam (fun x hx => nomatch hx) ?_
                intro b2 r2 s2 hr2 hp2
                obtain ⟨h8, h9⟩ := kill_row hr2
                by_cases hne : b2 = b
                · subst hne; rw [hr] at h8; cases h8; exact (h9 rfl).elim
                · obtain ⟨g2, h10, h11⟩ := R.apart b b2 _ r2 c s s2 (Ne.symm hne) hr h8 hp hp2
                  cases h10
                  exact (h9 h11).elim
              | none =>
                cases h7
                have R₁ := R.newFam false
                have R₂ := R₁.retag (hn1 false) (fun x hx => nomatch hx) (hn2 false) (.inl rfl)
                refine go ((σ.new (.fam false)).2.put b (.cells ty' m t (some σ.next) false ex)) none R₂ ((T.newFam false).put (hn1 false) (fun y hy => by cases hy)) (fun x hx => nomatch hx) ?_
                intro b2 r2 s2 hr2 hp2
                rcases put_row (hn1 false) (fun y hy => by cases hy) hr2 with ⟨rfl, rfl, h8⟩ | ⟨hne, h8⟩
                · have := h8 (by omega)
                  rw [hn2 false] at this
                  cases this
                · rw [row_new R.gbelow (.fam false) b2 (fam_row h8)] at h8
                  obtain ⟨g2, h9, h10⟩ := R.apart b b2 _ r2 c s s2 (Ne.symm hne) hr h8 hp hp2
                  cases h9
end
end Go.Ev
/- unsafe.String and copy of nothing: what the evaluator says of them is so. -/
namespace Go.Ev
open Go
variable [Tok]

section
variable {P : Program} {σ : St} {φ : Place} {A : Nat → Prop} {w : World}

/-- The heap may turn where no living row and no map of ours lies. -/
theorem Rel.change {h h' : Array Obj} (R : Rel σ φ A h) (e : Ext φ A h φ A h') (hs : ∀ b r c s, σ.row b = some r → φ b = some (c, s) → h'[c]? = h[c]?)
    (hm : ∀ b k es c s, σ.tr.get b = some (.mp k es) → φ b = some (c, s) → h'[c]? = h[c]?) : Rel σ φ A h' := by
  refine ⟨R.below, R.gbelow, R.fresh, fun b c s hb => Nat.lt_of_lt_of_le (R.places b c s hb) e.size, fun c hc => Nat.lt_of_lt_of_le (R.owned c hc) e.size, fun b r c s hr hp => ?_, fun b k es c s hb hp => ?_,
    R.apart, R.mapart, R.tips, R.fams, R.onetip⟩
  · obtain ⟨ha, arr, h1, h2, h3, h4⟩ := R.rows b r c s hr hp
    refine ⟨ha, arr, by rw [hs b r c s hr hp]; exact h1, h2, h3, fun i x hi hx => ?_⟩
    obtain ⟨v, h5, h6⟩ := h4 i x hi hx
    exact ⟨v, h5, VR.mono e x v h6⟩
  · obtain ⟨ha, o, h1, h2⟩ := R.maps b k es c s hb hp
    exact ⟨ha, o, by rw [hm b k es c s hb hp]; exact h1, OR.mono e h2⟩

omit [Tok] in
theorem ext_frz {h : Array Obj} {c : Nat} {arr : Array Value} {ty : TypeId} {fr fr' : Nat × Nat} (ha : A c) (hc : h[c]? = some (Obj.cells arr ty fr)) :
    Ext φ A h φ A (h.setIfInBounds c (Obj.cells arr ty fr')) where
  place := fun _ _ hp => hp
  own := fun _ hc => .inl hc
  size := by simp
  same := fun x hx hn => by
    rw [set_get h c _ (lt_of_get hc)]
    by_cases e : x = c
    · subst e; exact (hn ha).elim
    · rw [if_neg e]
  rows := fun x a t f hx => by
    rw [set_get h c _ (lt_of_get hc)]
    by_cases e : x = c
    · subst e
      rw [hc] at hx; cases hx
      exact ⟨arr, fr', by rw [if_pos rfl], rfl⟩
    · exact ⟨a, f, by rw [if_neg e]; exact hx, rfl⟩

omit [Tok] in
theorem liesAt_bytes_off {e : TypeId} (hc : P.cellsOf e = 1) (count off n : Nat) (hn : off + n ≤ count) : liesAt P P.depth e count off e n = true := by
  have hd : P.depth = (2 * (P.types.size + Made.depth) + 1) + 1 := rfl
  rw [hd]
  simp only [liesAt, Bool.or_eq_true]
  left
  rw [hd]
  simp [rowAt, hc, hn, sameLayout, Nat.mod_one]

omit [Tok] in
theorem run_loadInts : ∀ (ns : List Int) (c o : Nat) (acc : ByteArray), (∀ j n, ns[j]? = some n → w.cell? ⟨c, o + j, none⟩ = some (.int .u8 n)) →
    (loadBytes ⟨c, o, none⟩ acc ns.length).run P w = .ok ⟨acc.data ++ (ns.map fun n => UInt8.ofNat n.toNat).toArray⟩ w
  | [], _, _, acc, _ => by simp [loadBytes]
  | n :: ns, c, o, acc, h => by
    have h0 : w.cell? ⟨c, o, none⟩ = some (.int .u8 n) := by simpa using h 0 n rfl
    have ih := run_loadInts ns c (o + 1) (acc.push n.toNat.toUInt8) (fun j y hy => by
      have := h (j + 1) y (by simpa using hy)
      rw [show o + 1 + j = o + (j + 1) by omega]; exact this)
    simp only [List.length_cons, loadBytes, Sem.run_bind, run_load, h0, Result.andThen]
    rw [addr_add, ih]
    congr 1
    apply ByteArray.ext
    simp [ByteArray.push]

omit [Tok] in
theorem freeze_heap {c o n : Nat} {arr : Array Value} {ty : TypeId} (hn : n ≠ 0) (hc : w.heap[c]? = some (Obj.cells arr ty (0, 0))) :
    w.freeze ⟨c, o, none⟩ n = { w with heap := w.heap.setIfInBounds c (.cells arr ty (o, o + n)) } := by
  unfold World.freeze
  rw [if_neg hn]
  congr 1
  apply Array.ext_getElem?
  intro j
  rw [Array.getElem?_modify, set_get _ _ _ (lt_of_get hc)]
  simp only
  by_cases e : j = c
  · subst e
    rw [if_pos rfl, if_pos rfl, hc]
    simp
  · rw [if_neg (fun h => e h.symm), if_neg e]

/-- The row is dead, and what lay there may turn. -/
theorem Rel.dropped {h : Array Obj} (R : Rel σ φ A h) {b : Nat} {r : Row} (hr : σ.row b = some r) {c s : Nat} (hp : φ b = some (c, s)) :
    Rel (σ.drop b r.ty r.n r.t r.ex r.grp) φ A h ∧ (∀ b' r' s', (σ.drop b r.ty r.n r.t r.ex r.grp).row b' = some r' → φ b' ≠ some (c, s')) ∧
    (∀ b' k es, (σ.drop b r.ty r.n r.t r.ex r.grp).tr.get b' = some (.mp k es) → σ.tr.get b' = some (.mp k es)) ∧ (Tot σ φ → Tot (σ.drop b r.ty r.n r.t r.ex r.grp) φ) := by
  obtain ⟨ty, n, t, g, tip, ex⟩ := r
  obtain ⟨hb, hg⟩ := St.row_some hr
  simp only at hb hg
  cases g with
  | some g =>
    have hg := hg g rfl
    simp only [St.drop]
    refine ⟨R.killFam hg, fun b' r' s' hr' hp' => ?_, fun b' k es hb' => ?_, fun T => T.killFam⟩
    · obtain ⟨h1, h2⟩ := St.row_some hr'
      rw [put_get] at h1
      by_cases e : b' = g
      · rw [if_pos e] at h1; cases h1
      · rw [if_neg e] at h1
        have hgr : r'.grp ≠ some g := fun hgr => by
          have := h2 g hgr
          rw [put_get, if_pos rfl] at this
          cases this
        have hold : σ.row b' = some r' := St.row_of h1 fun y hy => by
          have h3 := h2 y hy
          rw [put_get] at h3
          by_cases e2 : y = g
          · rw [if_pos e2] at h3; cases h3
          · rw [if_neg e2] at h3; exact h3
        by_cases e3 : b' = b
        · subst e3
          rw [hold] at hr
          cases hr
          exact hgr rfl
        · obtain ⟨x, hx1, hx2⟩ := R.apart b' b _ _ c s' s e3 hold hr hp' hp
          simp only [Option.some.injEq] at hx2
          subst hx2
          exact hgr hx1
    · rw [put_get] at hb'
      by_cases e : b' = g
      · rw [if_pos e] at hb'; cases hb'
      · rw [if_neg e] at hb'; exact hb'
  | none =>
    simp only [St.drop]
    have R1 := R.newFam false
    have hnb : b ≠ σ.next := fun e => by
      have := R.below _ _ hb
      omega
    have hb1 : (σ.new (.fam false)).2.tr.get b = some (.cells ty n t none tip ex) := by rw [new_get, if_neg hnb]; exact hb
    have hf1 : (σ.new (.fam false)).2.tr.get σ.next = some (.fam false) := by rw [new_get, if_pos rfl]
    refine ⟨R1.retag hb1 (fun x hx => by cases hx) hf1 (.inl rfl), fun b' r' s' hr' hp' => ?_, fun b' k es hb' => ?_, fun T => (T.newFam false).put hb1 (fun x => by simp)⟩
    · obtain ⟨h1, h2⟩ := St.row_some hr'
      rw [put_get] at h1
      by_cases e : b' = b
      · rw [if_pos e] at h1
        simp only [Option.some.injEq, Ent.cells.injEq] at h1
        have h3 := h2 σ.next h1.2.2.2.1.symm
        rw [put_get, if_neg (fun e => hnb e.symm), hf1] at h3
        cases h3
      · rw [if_neg e] at h1
        have hne : b' ≠ σ.next := fun e2 => by subst e2; rw [hf1] at h1; cases h1
        rw [new_get, if_neg hne] at h1
        have hold : σ.row b' = some r' := St.row_of h1 fun y hy => by
          have h3 := h2 y hy
          rw [put_get] at h3
          by_cases e2 : y = b
          · rw [if_pos e2] at h3; cases h3
          · rw [if_neg e2, new_get] at h3
            by_cases e4 : y = σ.next
            · rw [if_pos e4] at h3; cases h3
            · rw [if_neg e4] at h3; exact h3
        obtain ⟨x, hx1, hx2⟩ := R.apart b' b _ _ c s' s e hold hr hp' hp
        cases hx2
    · rw [put_get] at hb'
      by_cases e : b' = b
      · rw [if_pos e] at hb'; cases hb'
      · rw [if_neg e, new_get] at hb'
        by_cases e2 : b' = σ.next
        · rw [if_pos e2] at hb'; cases hb'
        · rw [if_neg e2] at hb'; exact hb'

theorem unsafeStr_sound (R : Rel σ φ A w.heap) (T : Tot σ φ) {p : AV} {v : Value} (hp : VR φ A w.heap p v) {pt it ty : TypeId} {n : Nat} {r : AV} {σ' : St} (h : unsafeStrAV P σ pt p n = some (r, σ')) :
    ∃ u w', (Builtin.unsafeString_ #[pt, it] ty #[v, .int .i64 n]).run P w = .ok u w' ∧ Behind σ' φ A w φ A w' ∧ VR φ A w'.heap r u := by
  unfold unsafeStrAV at h
  cases hn : Nat.beq n 0 with
  | true =>
    rw [nbeq, decide_eq_true_eq] at hn
    subst hn
    simp only [nbeq, decide_true, cond_true] at h
    split at h
    · cases h
      simp only [VR] at hp
      subst hp
      exact ⟨_, _, Lib.run_unsafeString_none w pt it ty none, Behind.same R T, by simp only [VR]⟩
    · cases h
      simp only [VR] at hp
      obtain ⟨c, s, _, rfl⟩ := hp
      exact ⟨_, _, Lib.run_unsafeString_none w pt it ty _, Behind.same R T, by simp only [VR]⟩
    · cases h
  | false =>
    rw [hn] at h
    simp only [cond_false] at h
    rw [nbeq, decide_eq_false_iff_not] at hn
    split at h
    rotate_left
    · cases h
    rename_i b off e hu
    split at h
    rotate_left
    · cases h
    rename_i ty' m t g tip ex hr
    cases hb : (Nat.beq ty' e && (Nat.beq (P.cellsOf e) 1 && (Nat.ble n 1000000000 && Nat.ble (off + n) m))) with
    | false => rw [hb] at h; cases h
    | true =>
    rw [hb] at h
    simp only [cond_true] at h
    simp only [Bool.and_eq_true, nbeq, nble, decide_eq_true_eq] at hb
    obtain ⟨rfl, hce, hmax, hle⟩ := hb
    cases hcs : takeCells t off n with
    | none => rw [hcs] at h; cases h
    | some cs =>
    rw [hcs] at h
    simp only [Option.map_eq_some_iff] at h
    obtain ⟨bs, hbs, h⟩ := h
    cases h
    simp only [VR] at hp
    obtain ⟨c, s, hpl, rfl⟩ := hp
    obtain ⟨ha, arr, h1, h2, _, h4⟩ := R.rows b _ c s hr hpl
    simp only at h1 h2 h4
    obtain ⟨h5, h6⟩ := takeCells_get t n off cs hcs
    obtain ⟨ns, rfl, rfl⟩ := bytesOf_ints cs bs hbs
    have hlen : ns.length = n := by simpa using h5
    have hcell : ∀ j x, ns[j]? = some x → w.cell? ⟨c, s + off + j, none⟩ = some (.int .u8 x) := fun j x hx => by
      have hj : j < n := by rw [← hlen]; exact (List.getElem?_eq_some_iff.1 hx).1
      have h7 := h6 j hj
      rw [List.getElem?_map, hx] at h7
      obtain ⟨v, h8, h9⟩ := h4 (off + j) _ (by omega) h7
      simp only [VR] at h9
      rw [cell?_of h1, Nat.add_assoc, h8, h9]
    have hlb := run_loadInts (P := P) (w := w) ns c (s + off) .empty hcell
    rw [hlen] at hlb
    have hsh : w.shape? c = some (ty', arr.size) := by simp [World.shape?, h1]
    have hlies := liesAt_bytes_off (P := P) hce (arr.size / P.cellsOf ty') (s + off) n (by rw [hce, Nat.div_one]; omega)
    obtain ⟨D1, D2, D3, D4⟩ := R.dropped hr hpl
    simp only at D1 D2 D3 D4
    have hex : Ext φ A w.heap φ A (w.heap.setIfInBounds c (.cells arr ty' (s + off, s + off + n))) := ext_frz ha h1
    have hfz := freeze_heap (w := w) (o := s + off) hn h1
    refine ⟨.string ⟨(ns.map fun n => UInt8.ofNat n.toNat).toArray⟩, w.freeze ⟨c, s + off, none⟩ n, ?_, ?_, by simp only [VR]⟩
    · have hdef : Builtin.unsafeString_ #[pt, it] ty #[.pointer (some ⟨c, s + off, none⟩), .int .i64 n] =
          (do
            let m ← asInt (.int .i64 n)
            if m < 0 then runtimePanic (.error "unsafe.String: len out of range")
            if m > IntKind.i64.max then unsupported (.unsafePointer "String: a length above the largest int")
            if m = 0 then pure (.string .empty)
            else if ← variablesAt ⟨c, s + off, none⟩ (← elemOf pt) m.toNat then do
              let s' ← loadBytes ⟨c, s + off, none⟩ .empty m.toNat
              freeze ⟨c, s + off, none⟩ m.toNat
              pure (.string s')
            else unsupported (.unsafePointer "String: not so many bytes at ptr")) := rfl
      rw [hdef]
      have hmx : IntKind.i64.max = 9223372036854775807 := rfl
      have hneg : ¬ (n : Int) < 0 := by omega
      have h63 : ¬ (9223372036854775807 : Int) < (n : Int) := by omega
      have hn' : ¬ (n : Int) = 0 := by omega
      simp [asInt, asIntOf, hmx, h63, hneg, hn', hn, variablesAt, hsh, elemOf, run_underlying hu, hlies, hlb]
    · rw [hfz]
      refine ⟨D1.change hex (fun b' r' c' s' hr' hp' => ?_) (fun b' k es c' s' hb' hp' => ?_), D4 T, hex, ⟨rfl, rfl, rfl⟩, Keeps.set hpl _⟩
      · have : c' ≠ c := fun e => by subst e; exact D2 b' r' s' hr' hp'
        simp only
        rw [set_get _ _ _ (lt_of_get h1), if_neg this]
      · have : c' ≠ c := fun e => by
          subst e
          obtain ⟨_, o, h7, h8⟩ := R.maps b' k es c' s' (D3 b' k es hb') hp'
          rw [h1] at h7; cases h7; exact h8
        simp only
        rw [set_get _ _ _ (lt_of_get h1), if_neg this]

omit [Tok] in
theorem copyNone_run {dt st e : TypeId} (hu : P.underlying dt = some (.slice e)) {k : Nat} (hk : sizeOfP P e = some k) {ad : Addr} {n c c' : Nat} (ty : TypeId) :
    (Builtin.copy_ #[dt, st] ty #[.slice (some ad) n c, .slice none 0 c']).run P w = .ok (.int .i64 0) w := by
  unfold Builtin.copy_
  simp [run_underlying hu, sizeOfP_run hk, Builtin.lenOf, Builtin.firstCells, storeCells, goInt]
end
end Go.Ev
/- What writes, and what calls: what the evaluator says of it is so. -/
namespace Go.Ev
open Go
noncomputable section
variable [Tok]

section
variable {P : Program} {σ : St} {φ : Place} {A : Nat → Prop} {w : World} {ρ : Env} {a : Act}

theorem MR.get {h : Array Obj} : ∀ {es : List (Value × AV)} {ces : List MapEntry}, MR φ A h es ces → ∀ (i : Nat) k x, es[i]? = some (k, x) → ∃ e, ces[i]? = some e ∧ e.key = k ∧ VR φ A h x e.val
  | (_, _) :: _, e :: _, hm, 0, k, x, hx => by cases hx; exact ⟨e, rfl, hm.1, hm.2.1⟩
  | (_, _) :: r, _ :: s, hm, i + 1, k, x, hx => MR.get hm.2.2 i k x hx
  | [], [], _, i, _, _, hx => by cases i <;> cases hx
  | [], _ :: _, hm, _, _, _, _ => hm.elim
  | _ :: _, [], hm, _, _, _, _ => hm.elim

theorem MR.append {h : Array Obj} : ∀ {es es' : List (Value × AV)} {ces ces' : List MapEntry}, MR φ A h es ces → MR φ A h es' ces' → MR φ A h (es ++ es') (ces ++ ces')
  | [], _, [], _, _, h2 => h2
  | (_, _) :: r, _, _ :: s, _, h1, h2 => ⟨h1.1, h1.2.1, MR.append h1.2.2 h2⟩
  | [], _, _ :: _, _, hm, _ => hm.elim
  | _ :: _, _, [], _, hm, _ => hm.elim

theorem MR.take {h : Array Obj} : ∀ {es : List (Value × AV)} {ces : List MapEntry} (i : Nat), MR φ A h es ces → MR φ A h (es.take i) (ces.take i)
  | [], [], i, _ => by cases i <;> trivial
  | (_, _) :: r, _ :: s, 0, _ => trivial
  | (_, _) :: r, _ :: s, i + 1, h1 => ⟨h1.1, h1.2.1, MR.take i h1.2.2⟩
  | [], _ :: _, _, hm => hm.elim
  | _ :: _, [], _, hm => hm.elim

theorem MR.drop {h : Array Obj} : ∀ {es : List (Value × AV)} {ces : List MapEntry} (i : Nat), MR φ A h es ces → MR φ A h (es.drop i) (ces.drop i)
  | [], [], i, _ => by cases i <;> trivial
  | (_, _) :: r, _ :: s, 0, h1 => h1
  | (_, _) :: r, _ :: s, i + 1, h1 => MR.drop i h1.2.2
  | [], _ :: _, _, hm => hm.elim
  | _ :: _, [], _, hm => hm.elim

omit [Tok] in
theorem ext_set_obj {φ : Place} {A : Nat → Prop} {h : Array Obj} {c : Nat} {o o' : Obj} (ha : A c) (hc : h[c]? = some o) (hn : ∀ a t f, o ≠ .cells a t f) : Ext φ A h φ A (h.setIfInBounds c o') where
  place := fun _ _ hp => hp
  own := fun _ hc => .inl hc
  size := by simp
  same := fun x hx hn => by
    rw [set_get h c _ (lt_of_get hc)]
    by_cases e : x = c
    · subst e; exact (hn ha).elim
    · rw [if_neg e]
  rows := fun x a t f hx => by
    rw [set_get h c _ (lt_of_get hc)]
    by_cases e : x = c
    · subst e
      rw [hc] at hx; cases hx
      exact (hn _ _ _ rfl).elim
    · exact ⟨a, f, by rw [if_neg e]; exact hx, rfl⟩

/-- A map or a channel is written. -/
theorem Rel.objset {h : Array Obj} (R : Rel σ φ A h) {b : Nat} {k k' : Option Nat} {es es' : List (Value × AV)} (hb : σ.tr.get b = some (.mp k es)) {c s : Nat} (hp : φ b = some (c, s)) {o o' : Obj}
    (hc : h[c]? = some o) (hn : ∀ a t f, o ≠ .cells a t f) (hm : OR φ A h k' es' o') : Rel (σ.put b (.mp k' es')) φ A (h.setIfInBounds c o') ∧ Ext φ A h φ A (h.setIfInBounds c o') := by
  obtain ⟨ha, _⟩ := R.maps b k es c s hb hp
  have E := ext_set_obj (φ := φ) (o' := o') ha hc hn
  have hcl := lt_of_get hc
  refine ⟨?_, E⟩
  have old : ∀ b' r, (σ.put b (.mp k' es')).row b' = some r → b' ≠ b ∧ σ.row b' = some r := fun b' r hr => by
    obtain ⟨h1, h2⟩ := St.row_some hr
    rw [put_get] at h1
    by_cases e : b' = b
    · rw [if_pos e] at h1; cases h1
    · rw [if_neg e] at h1
      refine ⟨e, ?_⟩
      have := St.row_of h1 (fun y hy => by
        have h3 := h2 y hy
        rw [put_get] at h3
        by_cases e2 : y = b
        · rw [if_pos e2] at h3; cases h3
        · rw [if_neg e2] at h3; exact h3)
      exact this
  have oldmp : ∀ b' q x, (σ.put b (.mp k' es')).tr.get b' = some (.mp q x) → (b' = b ∧ q = k' ∧ x = es') ∨ (b' ≠ b ∧ σ.tr.get b' = some (.mp q x)) := fun b' q x hb' => by
    rw [put_get] at hb'
    by_cases e : b' = b
    · rw [if_pos e] at hb'; cases hb'; exact .inl ⟨e, rfl, rfl⟩
    · rw [if_neg e] at hb'; exact .inr ⟨e, hb'⟩
  refine ⟨fun b' e hb' => ?_, fun b' ty n t g tip ex hb' => ?_, R.fresh, fun x c s hx => by simp; exact R.places _ _ _ hx, fun c hc => by simp; exact R.owned _ hc, fun b' r c' s' hr hp' => ?_, fun b' q x c' s' hb' hp' => ?_,
    fun b1 b2 r1 r2 c s s' hne hr hr' => R.apart b1 b2 r1 r2 c s s' hne (old b1 r1 hr).2 (old b2 r2 hr').2, fun b1 b2 q1 q2 x1 x2 c' s1 s2 hne h1 h2 hp1 hp2 => ?_,
    fun b1 b2 r1 r2 c s s' hr ht hr' => R.tips b1 b2 r1 r2 c s s' (old b1 r1 hr).2 ht (old b2 r2 hr').2, fun g y hg => ?_,
    fun b1 b2 r1 r2 c s s' hne hr hr' => R.onetip b1 b2 r1 r2 c s s' hne (old b1 r1 hr).2 (old b2 r2 hr').2⟩
  · rw [put_get] at hb'
    by_cases e1 : b' = b
    · subst e1; exact R.below _ _ hb
    · rw [if_neg e1] at hb'; exact R.below _ _ hb'
  · rw [put_get] at hb'
    by_cases e1 : b' = b
    · rw [if_pos e1] at hb'; cases hb'
    · rw [if_neg e1] at hb'; exact R.gbelow _ _ _ _ _ _ _ hb'
  · obtain ⟨_, h1⟩ := old b' r hr
    obtain ⟨ha', arr, h2, h3, h4, h5⟩ := R.rows b' r c' s' h1 hp'
    have e : c' ≠ c := fun e => by subst e; rw [hc] at h2; cases h2; exact hn _ _ _ rfl
    refine ⟨ha', arr, by rw [set_get _ _ _ hcl, if_neg e]; exact h2, h3, h4, fun i x hi hx => ?_⟩
    obtain ⟨v, h6, h7⟩ := h5 i x hi hx
    exact ⟨v, h6, VR.mono E x v h7⟩
  · rcases oldmp b' q x hb' with ⟨rfl, rfl, rfl⟩ | ⟨hne, h1⟩
    · rw [hp] at hp'; cases hp'
      exact ⟨ha, o', by rw [set_get _ _ _ hcl, if_pos rfl], OR.mono E hm⟩
    · obtain ⟨ha', o2, h2, h3⟩ := R.maps b' q x c' s' h1 hp'
      have e : c' ≠ c := fun e => by
        subst e
        exact R.mapart b b' _ _ es x c' s s' (Ne.symm hne) hb h1 hp hp'
      exact ⟨ha', o2, by rw [set_get _ _ _ hcl, if_neg e]; exact h2, OR.mono E h3⟩
  · rcases oldmp b1 q1 x1 h1 with ⟨rfl, rfl, rfl⟩ | ⟨e1, h3⟩ <;> rcases oldmp b2 q2 x2 h2 with ⟨rfl, rfl, rfl⟩ | ⟨e2, h4⟩
    · exact hne rfl
    · exact R.mapart b1 b2 _ _ es x2 c' s1 s2 hne hb h4 hp1 hp2
    · exact R.mapart b1 b2 _ _ x1 es c' s1 s2 hne h3 hb hp1 hp2
    · exact R.mapart b1 b2 _ _ x1 x2 c' s1 s2 hne h3 h4 hp1 hp2
  · rw [put_get] at hg
    by_cases e1 : g = b
    · rw [if_pos e1] at hg; cases hg
    · rw [if_neg e1] at hg; exact R.fams g y hg

/-- A map is written. -/
theorem Rel.mapped {h : Array Obj} (R : Rel σ φ A h) {b : Nat} {es es' : List (Value × AV)} (hb : σ.tr.get b = some (.mp none es)) {c s : Nat} (hp : φ b = some (c, s)) {ces ces' : Array MapEntry} {clk clk' : Nat}
    (hc : h[c]? = some (Obj.map ces clk)) (hm : MR φ A h es' ces'.toList) : Rel (σ.put b (.mp none es')) φ A (h.setIfInBounds c (Obj.map ces' clk')) ∧ Ext φ A h φ A (h.setIfInBounds c (Obj.map ces' clk')) :=
  R.objset hb hp hc (fun _ _ _ e => by cases e) ⟨rfl, hm⟩

omit [Tok] in
theorem run_setObj_map {c : Nat} {ces ces' : Array MapEntry} {clk clk' : Nat} (hc : w.heap[c]? = some (Obj.map ces clk)) : (setObj c (.map ces' clk')).run P w = .ok () { w with heap := w.heap.setIfInBounds c (Obj.map ces' clk') } := by
  simp [setObj, Sem.run, hc]

theorem mapPut_sound (R : Rel σ φ A w.heap) (T : Tot σ φ) {t : TypeId} {m x : AV} {k cm cv : Value} (hm : VR φ A w.heap m cm) (hx : VR φ A w.heap x cv) {σ' : St} (h : mapPut P σ t m k x = some σ') :
    ∃ w', (Instr.mapUpdate t cm k cv).run P w = .ok () w' ∧ Behind σ' φ A w φ A w' := by
  unfold mapPut at h
  split at h
  · rename_i kt et b hu
    simp only [VR] at hm
    obtain ⟨c, s, hp, rfl⟩ := hm
    split at h
    · rename_i es hb
      obtain ⟨_, ces, clk, hc, hmr⟩ := R.maps1 b es c s hb hp
      split at h
      · rename_i u hck
        have hck' := pureRun_sound _ hck w
        have hkd : ∃ d, P.underlying kt = some d := by
          cases hku : P.underlying kt with
          | some d => exact ⟨d, rfl⟩
          | none =>
            exfalso
            rw [show (10000 : Nat) = 9999 + 1 from rfl, Instr.checkKey] at hck'
            simp [underlying, hku] at hck'
        obtain ⟨d, hd⟩ := hkd
        have pre : ∀ (r' : Option (Nat × Value)) (rest : Sem Unit), (Instr.findKey kt k ces.toList).run P w = .ok r' w → (match r' with
              | some (i, _) => do
                let key ← Instr.keyThatStays (((ces[i]?).map (·.key)).getD k) k
                setObj c (.map (ces.modify i fun e => { e with key, val := cv }) clk)
              | none => setObj c (.map (ces.push { key := k, val := cv, born := clk }) (clk + 1))) = rest → (Instr.mapUpdate t (.map (some c)) k cv).run P w = rest.run P w := fun r' rest hr he => by
          unfold Instr.mapUpdate
          simp only [Sem.run_bind, run_underlying hu, Result.andThen_ok, run_getObj_map hc, hck', hr]
          rw [← he]
          cases r' with
          | none => rfl
          | some p => rfl
        split at h
        · rename_i i v hf
          obtain ⟨r', h1, h2, h3⟩ := findAV_sound hd es ces.toList 0 _ hmr hf
          cases r' with
          | none => exact h1.elim
          | some p =>
            obtain ⟨j, u⟩ := p
            obtain ⟨rfl, _⟩ := h1
            split at h
            · rename_i old y hi
              split at h
              · rename_i hsb
                cases h
                obtain ⟨e, he1, he2, he3⟩ := MR.get hmr i old y hi
                have hil : i < ces.size := by
                  have := (List.getElem?_eq_some_iff.1 he1).1
                  simpa using this
                have hei : ces[i]? = some e := by simpa using he1
                have hstay : (Instr.keyThatStays (((ces[i]?).map (·.key)).getD k) k).run P w = .ok k w := by
                  rw [hei]
                  simp only [Option.map_some, Option.getD_some]
                  unfold Instr.keyThatStays
                  rw [he2, if_pos hsb]
                  rfl
                have hmr' : MR φ A w.heap (modAt es i (k, x)) (ces.modify i fun e => { e with key := k, val := cv }).toList := by
                  have : (ces.modify i fun e => { e with key := k, val := cv }).toList = ces.toList.take i ++ ({ e with key := k, val := cv } :: ces.toList.drop (i + 1)) := by
                    apply List.ext_getElem?
                    intro j
                    rw [Array.getElem?_toList, Array.getElem?_modify, List.getElem?_append]
                    simp only [List.length_take, Array.length_toList]
                    by_cases e1 : i = j
                    · subst e1
                      rw [if_pos rfl, if_neg (by omega)]
                      have : i - min i ces.size = 0 := by omega
                      rw [this, hei]
                      rfl
                    · rw [if_neg e1]
                      by_cases e2 : j < i
                      · rw [if_pos (by omega), List.getElem?_take, if_pos e2, Array.getElem?_toList]
                      · rw [if_neg (by omega)]
                        have : j - min i ces.size = (j - i - 1) + 1 := by omega
                        rw [this, List.getElem?_cons_succ, List.getElem?_drop, Array.getElem?_toList]
                        congr 1
                        omega
                  rw [this]
                  unfold modAt
                  exact MR.append (MR.take i hmr) ⟨rfl, hx, MR.drop (i + 1) hmr⟩
                obtain ⟨h4, h5⟩ := R.mapped (clk' := clk) hb hp hc hmr'
                refine ⟨{ w with heap := w.heap.setIfInBounds c (Obj.map (ces.modify i fun e => { e with key := k, val := cv }) clk) }, ?_, ⟨h4, T.put hb (fun y hy => by cases hy), h5, ⟨rfl, rfl, rfl⟩, Keeps.set hp _⟩⟩
                rw [pre _ _ (findKey_run hd h2 h3 w) rfl]
                simp only [Sem.run_bind, hstay, Result.andThen_ok]
                exact run_setObj_map hc
              · cases h
            · cases h
        · rename_i hf
          cases h
          obtain ⟨r', h1, h2, h3⟩ := findAV_sound hd es ces.toList 0 _ hmr hf
          cases r' with
          | some p => exact h1.elim
          | none =>
            have hmr' : MR φ A w.heap (es ++ [(k, x)]) (ces.push { key := k, val := cv, born := clk }).toList := by
              rw [Array.toList_push]
              exact MR.append hmr ⟨rfl, hx, trivial⟩
            obtain ⟨h4, h5⟩ := R.mapped (clk' := clk + 1) hb hp hc hmr'
            refine ⟨{ w with heap := w.heap.setIfInBounds c (Obj.map (ces.push { key := k, val := cv, born := clk }) (clk + 1)) }, ?_, ⟨h4, T.put hb (fun y hy => by cases hy), h5, ⟨rfl, rfl, rfl⟩, Keeps.set hp _⟩⟩
            rw [pre _ _ (findKey_run hd h2 h3 w) rfl]
            exact run_setObj_map hc
        · cases h
      · cases h
    · cases h
  · cases h

theorem mapDel_sound (R : Rel σ φ A w.heap) (T : Tot σ φ) {t : TypeId} {m : AV} {k cm : Value} (hm : VR φ A w.heap m cm) {σ' : St} (h : mapDel P σ t m k = some σ') {ats : Array TypeId} (hat : ats[0]? = some t) (ty : TypeId) :
    ∃ w', (Builtin.delete_ ats ty #[cm, k]).run P w = .ok (.tuple #[]) w' ∧ Behind σ' φ A w φ A w' := by
  unfold mapDel at h
  split at h
  · rename_i kt et b hu
    simp only [VR] at hm
    obtain ⟨c, s, hp, rfl⟩ := hm
    split at h
    · rename_i es hb
      obtain ⟨_, ces, clk, hc, hmr⟩ := R.maps1 b es c s hb hp
      split at h
      · rename_i u hck
        have hck' := pureRun_sound _ hck w
        rw [MR.isEmpty hmr] at hck'
        have hkd : ∃ d, P.underlying kt = some d := by
          cases hku : P.underlying kt with
          | some d => exact ⟨d, rfl⟩
          | none =>
            exfalso
            rw [show (10000 : Nat) = 9999 + 1 from rfl, Instr.checkKey] at hck'
            simp [underlying, hku] at hck'
        obtain ⟨d, hd⟩ := hkd
        have pre : ∀ (r' : Option (Nat × Value)) (rest : Sem Unit) (w' : World), (Instr.findKey kt k ces.toList).run P w = .ok r' w → (match r' with
              | some (i, _) => setObj c (.map (ces.eraseIdxIfInBounds i) clk)
              | none => setObj c (.map ces clk)) = rest → rest.run P w = .ok () w' → (Builtin.delete_ ats ty #[.map (some c), k]).run P w = .ok (.tuple #[]) w' := fun r' rest w' hr he hw => by
          rw [← he] at hw
          unfold Builtin.delete_
          cases r' with
          | none => simp [hat, run_underlying hu, run_getObj_map hc, hck', hr, hw]
          | some p => simp [hat, run_underlying hu, run_getObj_map hc, hck', hr, hw]
        split at h
        · rename_i i v hf
          cases h
          obtain ⟨r', h1, h2, h3⟩ := findAV_sound hd es ces.toList 0 _ hmr hf
          cases r' with
          | none => exact h1.elim
          | some p =>
            obtain ⟨j, u⟩ := p
            obtain ⟨rfl, _⟩ := h1
            have hmr' : MR φ A w.heap (es.take i ++ es.drop (i + 1)) (ces.eraseIdxIfInBounds i).toList := by
              rw [Array.toList_eraseIdxIfInBounds, List.eraseIdx_eq_take_drop_succ]
              exact MR.append (MR.take i hmr) (MR.drop (i + 1) hmr)
            obtain ⟨h4, h5⟩ := R.mapped (clk' := clk) hb hp hc hmr'
            exact ⟨{ w with heap := w.heap.setIfInBounds c (Obj.map (ces.eraseIdxIfInBounds i) clk) }, pre _ _ _ (findKey_run hd h2 h3 w) rfl (run_setObj_map hc), ⟨h4, T.put hb (fun y hy => by cases hy), h5, ⟨rfl, rfl, rfl⟩, Keeps.set hp _⟩⟩
        · rename_i hf
          cases h
          obtain ⟨r', h1, h2, h3⟩ := findAV_sound hd es ces.toList 0 _ hmr hf
          cases r' with
          | some p => exact h1.elim
          | none =>
            have hw : w.heap.setIfInBounds c (Obj.map ces clk) = w.heap := by
              apply Array.ext_getElem?
              intro j
              rw [set_get _ _ _ (lt_of_get hc)]
              by_cases e : j = c
              · subst e; rw [if_pos rfl, hc]
              · rw [if_neg e]
            refine ⟨w, pre _ _ _ (findKey_run hd h2 h3 w) rfl ?_, Behind.same R T⟩
            have := run_setObj_map (P := P) (ces' := ces) (clk' := clk) hc
            rw [hw] at this
            exact this
        · cases h
      · cases h
    · cases h
  · cases h

/-- What a call owes: it is answered at once, or it is entered. -/
def CallOK (P : Program) (call : CallFn) : Prop := ∀ f args σ r σ', call f args σ = some (r, σ') → ∀ φ A w (cargs : Array Value), Rel σ φ A w.heap → Tot σ φ → cargs.size = args.length → VRL φ A w.heap args (fun i => cargs[i]?) →
  (∃ v w' φ' A', (callFunc f cargs).run P w = .ok (.value v) w' ∧ Behind σ' φ A w φ' A' w' ∧ VR φ' A' w'.heap r v) ∨
  ((callFunc f cargs).run P w = .ok (.enter f cargs) w ∧ Calls P f cargs w fun e w' => ∃ v φ' A', e = .returned v ∧ Behind σ' φ A w φ' A' w' ∧ VR φ' A' w'.heap r v)

theorem VRL.append {h : Array Obj} {x y : List AV} {a b : Array Value} (h1 : VRL φ A h x (fun i => a[i]?)) (h2 : VRL φ A h y (fun i => b[i]?)) (hs : a.size = x.length) : VRL φ A h (x ++ y) (fun i => (a ++ b)[i]?) :=
  VRL.of _ _ fun i z hz => by
    rw [List.getElem?_append] at hz
    rw [Array.getElem?_append]
    by_cases e : i < x.length
    · rw [if_pos e] at hz
      rw [if_pos (by omega)]
      exact VRL.get _ _ h1 i z hz
    · rw [if_neg e] at hz
      rw [if_neg (by omega), hs]
      exact VRL.get _ _ h2 _ z hz

omit [Tok] in
theorem toList_two {α : Type} {xs : Array α} {x y : α} (h : xs.toList = [x, y]) : xs = #[x, y] := by
  apply Array.ext'; simpa using h

omit [Tok] in
theorem evs_two {l : List Operand} {x y : AV} (h : evs ρ l = some [x, y]) : ∃ p q, l = [p, q] ∧ ev ρ p = some x ∧ ev ρ q = some y := by
  cases l with
  | nil => simp [evs] at h
  | cons p r =>
    simp only [evs] at h
    split at h
    · rename_i v vs h1 h2
      cases h
      cases r with
      | nil => simp [evs] at h2
      | cons q r =>
        simp only [evs] at h2
        split at h2
        · rename_i v' vs' h3 h4
          cases h2
          cases r with
          | nil => exact ⟨p, q, rfl, h1, h3⟩
          | cons z r =>
            simp only [evs] at h4
            split at h4 <;> cases h4
        · cases h2
    · cases h

theorem eop_sound {call : CallFn} (hcall : CallOK P call) (R : Rel σ φ A w.heap) (T : Tot σ φ) (hρ : ER φ A w.heap ρ a) {o : Oper} {x : AV} {σ' : St} (h : eop P call σ ρ o = some (x, σ'))
    {K : Act → World → Prop} {Q : Exit → Act → World → Prop} (hK : ∀ v w' φ' A', Behind σ' φ A w φ' A' w' → VR φ' A' w'.heap x v → K (a.put o.dst v) w') : o.wp P a w K Q := by
  obtain ⟨dst, op, type, pos, after, guard⟩ := o
  have value : ∀ {v : Value} {w' : World} {φ' : Place} {A' : Nat → Prop} {op : Op}, (execOp a.eval ⟨dst, op, type, pos, after, guard⟩).run P w = .ok (.value v) w' → Behind σ' φ A w φ' A' w' → VR φ' A' w'.heap x v →
      (∀ v w' φ' A', Behind σ' φ A w φ' A' w' → VR φ' A' w'.heap x v → K (a.put dst v) w') → Oper.wp P ⟨dst, op, type, pos, after, guard⟩ a w K Q := fun hr hb hv hK => by
    unfold Oper.wp
    rw [hr]
    exact hK _ _ _ _ hb hv
  have skip : ∀ {w' : World} {φ' : Place} {A' : Nat → Prop} {op : Op}, (execOp a.eval ⟨dst, op, type, pos, after, guard⟩).run P w = .ok .skip w' → Behind σ' φ A w φ' A' w' → x = .lit undef →
      (∀ v w' φ' A', Behind σ' φ A w φ' A' w' → VR φ' A' w'.heap x v → K (a.put dst v) w') → Oper.wp P ⟨dst, op, type, pos, after, guard⟩ a w K Q := fun hr hb hx hK => by
    unfold Oper.wp
    rw [hr]
    exact hK undef _ _ _ hb (by rw [hx]; simp only [VR])
  have mapup : ∀ (t : TypeId) (m k y : Operand) (op : Op), execOp a.eval ⟨dst, op, type, pos, after, guard⟩ = (do Instr.mapUpdate t (a.eval m) (a.eval k) (a.eval y); pure .skip) →
      (match ev ρ m, (ev ρ k).bind AV.toVal?, ev ρ y with
        | some m, some k, some v => (mapPut P σ t m k v).map fun σ' => (AV.lit undef, σ')
        | _, _, _ => none) = some (x, σ') → Oper.wp P ⟨dst, op, type, pos, after, guard⟩ a w K Q := fun t m k y op he h => by
    split at h
    · rename_i m' k' y' h1 h2 h3
      simp only [Option.map_eq_some_iff] at h
      obtain ⟨σ₂, h4, h5⟩ := h
      cases h5
      simp only [Option.bind_eq_some_iff] at h2
      obtain ⟨kx, h6, h7⟩ := h2
      have hk := toVal_sound (ev_sound hρ h6) h7
      obtain ⟨w', h8, h9⟩ := mapPut_sound R T (ev_sound hρ h1) (ev_sound hρ h3) h4
      refine skip (w' := w') (by rw [he, hk]; simp [h8]) h9 rfl hK
    · cases h
  cases op
  case store t p y =>
    simp only [eop] at h
    split at h
    · rename_i p' v n h1 h2 h3
      obtain ⟨hb, h⟩ := bif_bind h
      rw [nbeq, decide_eq_true_eq] at hb
      simp only [Option.map_eq_some_iff] at h
      obtain ⟨σ₂, h4, h5⟩ := h
      cases h5
      obtain ⟨c1, c2⟩ := cells_list v _ (ev_sound hρ h2)
      obtain ⟨ad, w', h6, h7, h8⟩ := storeAV_sound (P := P) R T (ev_sound hρ h1) c1 c2 h4
      refine skip (w' := w') ?_ h8 rfl hK
      have he : execOp a.eval ⟨dst, .store t p y, type, pos, after, guard⟩ = (do Instr.storeAt t (a.eval p) (a.eval y); pure .skip) := rfl
      rw [he]
      unfold Instr.storeAt Instr.sureAddr storeVar
      have hcs : (a.eval y).cells.size = n := by rw [← hb, ← c1]; simp
      simp [h6, sizeOfP_run h3, hcs, h7]
    · cases h
  case mapUpdate t m k y => exact mapup t m k y _ rfl (by simp only [eop] at h; exact h)
  case insert t m k y => exact mapup t m k y _ rfl (by simp only [eop] at h; exact h)
  case call c =>
    obtain ⟨callee, args, ats⟩ := c
    cases callee with
    | invoke r m => simp [eop] at h
    | value f =>
      simp only [eop] at h
      split at h
      · rename_i g first cap vs hf hvs
        have e1 := ev_sound hρ hf
        simp only [VR] at e1
        obtain ⟨fa, ca, h1, h2, h3, h4, h5⟩ := e1
        obtain ⟨h6, h7⟩ := evs_sound hρ _ _ hvs
        have hargs : (args.map a.eval).size = vs.length := by simp [h6]
        have hvl : VRL φ A w.heap vs (fun i => (args.map a.eval)[i]?) := VRL.of _ _ fun i z hz => by
          obtain ⟨v, h8, h9⟩ := VRL.get _ _ h7 i z hz
          exact ⟨v, by rw [← h8]; simp, h9⟩
        have hall : VRL φ A w.heap (first ++ vs ++ cap) (fun i => (fa ++ args.map a.eval ++ ca)[i]?) := VRL.append (VRL.append h3 hvl h2) h5 (by simp [h2, h6])
        have he : execOp a.eval ⟨dst, .call ⟨.value f, args, ats⟩, type, pos, after, guard⟩ = callFunc g (fa ++ args.map a.eval ++ ca) := by
          have : execOp a.eval ⟨dst, .call ⟨.value f, args, ats⟩, type, pos, after, guard⟩ = (do let d ← Deferred.ofValue (a.eval f) (args.map a.eval); invoke d.target d.args) := rfl
          rw [this, h1]
          rfl
        rcases hcall g _ σ x σ' h φ A w _ R T (by simp [h2, h4, h6]) hall with ⟨v, w', φ', A', h8, h9, h10⟩ | ⟨h8, h9⟩
        · exact value (by rw [he]; exact h8) h9 h10 hK
        · unfold Oper.wp
          rw [he, h8]
          exact h9.mono fun e w' ⟨v, φ', A', hev, hb, hv⟩ => by
            subst hev
            exact hK v w' φ' A' hb hv
      · cases h
    | builtin b =>
      cases b
      case append =>
        simp only [eop] at h
        split at h
        · rename_i s y st xt hvs hat
          obtain ⟨p, q, h1, h2, h3⟩ := evs_two hvs
          obtain rfl := toList_two h1
          obtain rfl := toList_two hat
          obtain ⟨v, w', φ', A', h4, h5, h6⟩ := appendAV_sound R T (ev_sound hρ h2) (ev_sound hρ h3) h type
          refine value ?_ h5 h6 hK
          rw [execOp_builtin]
          have : (#[p, q] : Array Operand).map a.eval = #[a.eval p, a.eval q] := by simp
          rw [this]
          change Sem.run P (do let r ← Builtin.append_ #[st, xt] type #[a.eval p, a.eval q]; pure (Next.value r)) w = _
          simp [h4]
        · cases h
      case delete =>
        simp only [eop] at h
        split at h
        · rename_i m k t hvs hat
          obtain ⟨p, q, h1, h2, h3⟩ := evs_two hvs
          obtain rfl := toList_two h1
          split at h
          · rename_i kv hk
            simp only [Option.map_eq_some_iff] at h
            obtain ⟨σ₂, h4, h5⟩ := h
            cases h5
            have hkv := toVal_sound (ev_sound hρ h3) hk
            obtain ⟨w', h6, h7⟩ := mapDel_sound R T (ev_sound hρ h2) h4 hat type
            refine value (v := .tuple #[]) ?_ h7 (by simp only [VR]) hK
            rw [execOp_builtin]
            have : (#[p, q] : Array Operand).map a.eval = #[a.eval p, a.eval q] := by simp
            rw [this, hkv]
            change Sem.run P (do let r ← Builtin.delete_ ats type #[a.eval p, kv]; pure (Next.value r)) w = _
            simp [h6]
          · cases h
        · cases h
      case unsafeString =>
        simp only [eop] at h
        split at h
        · rename_i p n pt it hvs hat
          obtain ⟨y, z, h1, h2, h3⟩ := evs_two hvs
          obtain rfl := toList_two h1
          obtain rfl := toList_two hat
          have e3 := ev_sound hρ h3
          simp only [VR] at e3
          obtain ⟨u, w', h4, h5, h6⟩ := unsafeStr_sound (it := it) (ty := type) R T (ev_sound hρ h2) h
          refine value ?_ h5 h6 hK
          rw [execOp_builtin]
          have : (#[y, z] : Array Operand).map a.eval = #[a.eval y, a.eval z] := by simp
          rw [this, e3]
          change Sem.run P (do let r ← Builtin.unsafeString_ #[pt, it] type #[a.eval y, .int .i64 n]; pure (Next.value r)) w = _
          simp [h4]
        · cases h
      case copy =>
        simp only [eop] at h
        split at h
        · rename_i b off len k cap c' dt st hvs hat
          obtain ⟨y, z, h1, h2, h3⟩ := evs_two hvs
          obtain rfl := toList_two h1
          obtain rfl := toList_two hat
          split at h
          · rename_i k' hk
            cases h
            have e3 := ev_sound hρ h3
            simp only [VR] at e3
            obtain ⟨c, s, ad, cc, _, e2, _⟩ := slice_of_sl (ev_sound hρ h2)
            simp only [Option.bind_eq_some_iff] at hk
            obtain ⟨e, he, hk⟩ := hk
            have hu : P.underlying dt = some (.slice e) := by
              unfold elemOfSlice at he
              split at he
              · cases he; assumption
              · cases he
            refine value (v := .int .i64 0) ?_ (Behind.same R T) (by simp only [VR]; rfl) hK
            rw [execOp_builtin]
            have : (#[y, z] : Array Operand).map a.eval = #[a.eval y, a.eval z] := by simp
            rw [this, e3, e2]
            change Sem.run P (do let r ← Builtin.copy_ #[dt, st] type #[.slice (some ad) len cc, .slice none 0 c']; pure (Next.value r)) w = _
            simp [copyNone_run hu hk]
          · cases h
        · cases h
      all_goals (simp only [eop] at h; cases h)
  all_goals (simp only [eop] at h; cases h)
end
end
end Go.Ev
/- Operations in their order, and codes: what the evaluator says of them is so. -/
namespace Go.Ev
open Go
noncomputable section
variable [Tok]

theorem Behind.trans {σ' σ'' : St} {φ φ' φ'' : Place} {A A' A'' : Nat → Prop} {w w' w'' : World} (x : Behind σ' φ A w φ' A' w') (y : Behind σ'' φ' A' w' φ'' A'' w'') : Behind σ'' φ A w φ'' A'' w'' :=
  ⟨y.rel, y.tot, x.ext.trans y.ext, x.wx.trans y.wx, x.keeps.trans x.ext.size y.keeps⟩

def dstOk (N : Nat) (o : Oper) : Bool := match o.dst with | some d => Nat.blt d N | none => true

def codeOk (N : Nat) : Code → Bool
  | .region _ ops _ => ops.toList.all (dstOk N)
  | .seq a b => codeOk N a && codeOk N b
  | .cond _ a b => codeOk N a && codeOk N b
  | .block _ b => codeOk N b
  | .loop b => codeOk N b
  | .scope b => codeOk N b
  | _ => true

section
variable {P : Program} {σ : St} {φ : Place} {A : Nat → Prop} {w : World} {ρ : Env} {a : Act}

theorem ER.mono {φ' : Place} {A' : Nat → Prop} {h h' : Array Obj} (e : Ext φ A h φ' A' h') (hρ : ER φ A h ρ a) : ER φ' A' h' ρ a := fun t x hx => by
  obtain ⟨v, h1, h2⟩ := hρ t x hx
  exact ⟨v, h1, VR.mono e x v h2⟩

theorem ER.put {h : Array Obj} (hρ : ER φ A h ρ a) {dst : Option Tmp} (hd : ∀ d, dst = some d → d < a.tmps.size) {x : AV} {v : Value} (hv : VR φ A h x v) : ER φ A h (putD ρ dst x) (a.put dst v) := by
  cases dst with
  | none => exact hρ
  | some d =>
    intro t y hy
    simp only [putD] at hy
    rw [Tr.get_set] at hy
    simp only [Act.put]
    rw [Array.getElem?_setIfInBounds]
    by_cases e : t = d
    · subst e
      rw [if_pos rfl] at hy
      cases hy
      rw [if_pos rfl, if_pos (hd t rfl)]
      exact ⟨v, rfl, hv⟩
    · rw [if_neg e] at hy
      rw [if_neg (Ne.symm e)]
      exact hρ t y hy

omit [Tok] in
theorem put_size (a : Act) (dst : Option Tmp) (v : Value) : (a.put dst v).tmps.size = a.tmps.size := by
  cases dst <;> simp [Act.put]
omit [Tok] in
theorem put_defers (a : Act) (dst : Option Tmp) (v : Value) : (a.put dst v).defers = a.defers := by
  cases dst <;> simp [Act.put]

theorem wanted_sound (hρ : ER φ A w.heap ρ a) {ops : Array Oper} {o : Oper} {b : Bool} (h : wantedAV ρ ops.toList o = some b) : Region.wanted o (yielded ops a.tmps) = b := by
  unfold wantedAV at h
  unfold Region.wanted
  split at h
  · rename_i hg; cases h; rw [hg]
  · rename_i j wt hg
    rw [hg]
    simp only
    split at h
    · rename_i d hd
      unfold yielded
      have hd' : (ops[j]?).bind (·.dst) = some d := by rw [← Array.getElem?_toList]; exact hd
      rw [hd']
      simp only [Option.bind_some]
      split at h
      · rename_i q hq
        cases h
        obtain ⟨v, h1, h2⟩ := hρ _ _ hq
        simp only [VR] at h2
        rw [h1, h2]
        simp only
        cases q <;> cases wt <;> rfl
      · rename_i q hnb hq
        cases h
        obtain ⟨v, h1, h2⟩ := hρ _ _ hq
        simp only [VR] at h2
        subst h2
        rw [h1]
        cases v <;> first | rfl | exact (hnb _ rfl).elim
      · cases h
    · cases h

theorem op1_sound {call : CallFn} (hcall : CallOK P call) (R : Rel σ φ A w.heap) (T : Tot σ φ) (hρ : ER φ A w.heap ρ a) {ops : Array Oper} {o : Oper} (hd : ∀ d, o.dst = some d → d < a.tmps.size) {ρ' : Env} {σ' : St}
    (h : op1 P call ops.toList o ρ σ = some (ρ', σ')) {K : Act → World → Prop} {Q : Exit → Act → World → Prop}
    (hK : ∀ a' w' φ' A', Behind σ' φ A w φ' A' w' → ER φ' A' w'.heap ρ' a' → a'.tmps.size = a.tmps.size → a'.defers = a.defers → K a' w') :
    if Region.wanted o (yielded ops a.tmps) then o.wp P a w K Q ∨ (o.asks P a w ∧ LetsOut Q) else K (a.put o.dst undef) w := by
  unfold op1 at h
  split at h
  · cases h
  · rename_i hw
    rw [wanted_sound hρ hw]
    cases h
    simp only [Bool.false_eq_true, if_false]
    exact hK _ _ φ A (Behind.same R T) (hρ.put hd (by simp only [VR])) (put_size _ _ _) (put_defers _ _ _)
  · rename_i hw
    rw [wanted_sound hρ hw]
    simp only [if_true]
    left
    -- an operation that leaves the world alone
    have quiet : ∀ {x : AV} {v : Value}, (execOp a.eval o).run P w = .ok (.value v) w → VR φ A w.heap x v → (putD ρ o.dst x, σ) = (ρ', σ') → o.wp P a w K Q := fun hr hv he => by
      cases he
      unfold Oper.wp
      rw [hr]
      exact hK _ _ φ A (Behind.same R T) (hρ.put hd hv) (put_size _ _ _) (put_defers _ _ _)
    split at h
    · split at h
      · rename_i t parts hop
        simp only [Option.map_eq_some_iff] at h
        obtain ⟨x, h1, h2⟩ := h
        obtain ⟨v, h3, h4⟩ := build_sound hρ h1
        refine quiet (x := x) (v := v) ?_ h4 h2
        obtain ⟨dst, op, type, pos, after, guard⟩ := o
        simp only at hop
        subst hop
        have he : execOp a.eval ⟨dst, .build t parts, type, pos, after, guard⟩ = (do pure (.value (← Instr.build t (parts.map fun (i, x) => (i, a.eval x))))) := rfl
        rw [he]
        simp only [Sem.run_bind, h3, Result.andThen_ok, Sem.run_pure]
      · simp only [Option.map_eq_some_iff] at h
        obtain ⟨x, h1, h2⟩ := h
        obtain ⟨v, h3, h4⟩ := qop_sound R hρ h1
        exact quiet h3 h4 h2
    · simp only [Option.map_eq_some_iff] at h
      obtain ⟨⟨e, mk⟩, h1, h2⟩ := h
      simp only [St.new] at h2
      cases h2
      obtain ⟨obj, v, h3, h4, h5⟩ := aop_sound hρ h1
      unfold Oper.wp
      rw [h3]
      have hb : Behind (σ.new e).2 φ A w (φadd φ σ.next (w.heap.size, 0)) (fun c => A c ∨ c = w.heap.size) (w.alloc obj) :=
        ⟨R.new e obj h4.fam (fun ty n t g tip ex he => (h4.grp ty n t g tip ex he).elim) h4.row h4.mp, T.new _ _, ext_push R.place_next obj, ⟨rfl, rfl, rfl⟩, Keeps.push _ _⟩
      exact hK _ _ _ _ hb ((hρ.mono hb.ext).put hd (h5 _ _ _ (by unfold φadd; rw [if_pos rfl]))) (put_size _ _ _) (put_defers _ _ _)
    · simp only [Option.map_eq_some_iff] at h
      obtain ⟨⟨x, σ₂⟩, h1, h2⟩ := h
      cases h2
      exact eop_sound hcall R T hρ h1 fun v w' φ' A' hb hv => hK _ _ φ' A' hb ((hρ.mono hb.ext).put hd hv) (put_size _ _ _) (put_defers _ _ _)

theorem opsSeq_sound {call : CallFn} (hcall : CallOK P call) {ops : Array Oper} {Q : Exit → Act → World → Prop} : ∀ (l : List Oper) (k : Nat) (σ : St) (φ : Place) (A : Nat → Prop) (w : World) (ρ : Env) (a : Act) (ρ' : Env) (σ' : St),
    (∀ j, l[j]? = ops[k + j]?) → Rel σ φ A w.heap → Tot σ φ → ER φ A w.heap ρ a → l.all (dstOk a.tmps.size) = true → opsSeq P call ops.toList l ρ σ = some (ρ', σ') →
    (∀ a' w' φ' A', Behind σ' φ A w φ' A' w' → ER φ' A' w'.heap ρ' a' → a'.tmps.size = a.tmps.size → a'.defers = a.defers → Q .normal a' w') → wpOps P ops Q (List.range' k l.length) a w
  | [], k, σ, φ, A, w, ρ, a, ρ', σ', _, R, T, hρ, _, h, hQ => by
    simp [opsSeq] at h
    obtain ⟨rfl, rfl⟩ := h
    simp only [List.length_nil, List.range'_zero, wpOps]
    exact hQ a w φ A (Behind.same R T) hρ rfl rfl
  | o :: l, k, σ, φ, A, w, ρ, a, ρ', σ', hl, R, T, hρ, hd, h, hQ => by
    have h0 : ops[k]? = some o := by simpa using (hl 0).symm
    simp only [opsSeq] at h
    split at h
    · rename_i ρ₁ σ₁ h1
      simp only [List.all_cons, Bool.and_eq_true] at hd
      simp only [List.length_cons, List.range'_succ, wpOps, h0]
      refine op1_sound hcall R T hρ (fun d hd' => ?_) h1 fun a' w' φ' A' hb hρ' hs hdf => ?_
      · have := hd.1
        unfold dstOk at this
        rw [hd'] at this
        simpa [nblt] using this
      · refine opsSeq_sound hcall l (k + 1) σ₁ φ' A' w' ρ₁ a' ρ' σ' (fun j => by have := hl (j + 1); simpa [Nat.add_assoc, Nat.add_comm 1 j] using this) hb.rel hb.tot hρ' (by rw [hs]; exact hd.2) h ?_
        intro a'' w'' φ'' A'' hb' hρ'' hs' hdf'
        exact hQ a'' w'' φ'' A'' (hb.trans hb') hρ'' (hs'.trans hs) (hdf'.trans hdf)
    · cases h

def exOf : Ex → Exit
  | .normal => .normal
  | .ret => .ret
  | .exit i => .exit i

/-- What a code's run owes. -/
def Post (ex : Ex) (ρ' : Env) (σ' : St) (φ : Place) (A : Nat → Prop) (w : World) (a : Act) : Exit → Act → World → Prop := fun e a' w' =>
  e = exOf ex ∧ a'.defers = a.defers ∧ a'.tmps.size = a.tmps.size ∧ ∃ φ' A', Behind σ' φ A w φ' A' w' ∧ ER φ' A' w'.heap ρ' a'

def DrawOK (P : Program) (call : CallFn) (draw : List Oper → Env → St → Option (Env × St)) : Prop := ∀ (ops : Array Oper) ρ σ ρ' σ', draw ops.toList ρ σ = some (ρ', σ') →
  ∀ φ A w (a : Act) (id : Nat), ops.toList.all (dstOk a.tmps.size) = true → Rel σ φ A w.heap → Tot σ φ → ER φ A w.heap ρ a → (Code.region id ops true).wp P (Post .normal ρ' σ' φ A w a) a w

def RunOK (P : Program) (run : Code → Env → St → Out) : Prop := ∀ c ρ σ ex ρ' σ', run c ρ σ = some (ex, ρ', σ') →
  ∀ φ A w (a : Act), codeOk a.tmps.size c = true → Rel σ φ A w.heap → Tot σ φ → ER φ A w.heap ρ a → c.wp P (Post ex ρ' σ' φ A w a) a w

theorem Post.trans {ex : Ex} {ρ' : Env} {σ₁ σ' : St} {a₁ : Act} {φ₁ : Place} {A₁ : Nat → Prop} {w₁ : World} (hb : Behind σ₁ φ A w φ₁ A₁ w₁) (hs : a₁.tmps.size = a.tmps.size) (hd : a₁.defers = a.defers) {e : Exit} {a' : Act} {w' : World}
    (h : Post ex ρ' σ' φ₁ A₁ w₁ a₁ e a' w') : Post ex ρ' σ' φ A w a e a' w' := by
  obtain ⟨h1, h2, h3, φ', A', h4, h5⟩ := h
  exact ⟨h1, h2.trans hd, h3.trans hs, φ', A', hb.trans h4, h5⟩

def LoopOK (P : Program) (run : Code → Env → St → Out) : Prop := ∀ b ρ σ ex ρ' σ', run (.loop b) ρ σ = some (ex, ρ', σ') →
  ∃ k, ∀ φ A w (a : Act), codeOk a.tmps.size b = true → Rel σ φ A w.heap → Tot σ φ → ER φ A w.heap ρ a → Code.rounds P b (Post ex ρ' σ' φ A w a) k a w

omit [Tok] in
theorem rounds_mono {c : Code} {Q Q' : Exit → Act → World → Prop} (h : ∀ e a w, Q e a w → Q' e a w) : ∀ n a w, Code.rounds P c Q n a w → Code.rounds P c Q' n a w
  | 0, _, _, hr => hr.elim
  | n + 1, a, w, hr => by
    rw [rounds_succ] at hr ⊢
    refine wp_mono hr fun e a' w' hq => ?_
    cases e with
    | normal => exact rounds_mono h n a' w' hq
    | _ => exact h _ _ _ hq

theorem loop_sound {run : Code → Env → St → Out} (hrun : RunOK P run) (hloop : LoopOK P run) {H : CallFn} {draw : CallFn → List Oper → Env → St → Option (Env × St)} : LoopOK P (execF P H draw run) := by
  intro b ρ σ ex ρ' σ' h
  simp only [execF] at h
  split at h
  · rename_i ρ₁ σ₁ h1
    obtain ⟨k, hk⟩ := hloop b ρ₁ σ₁ ex ρ' σ' h
    refine ⟨k + 1, fun φ A w a hok R T hρ => ?_⟩
    rw [rounds_succ]
    refine wp_mono (hrun b ρ σ _ _ _ h1 φ A w a hok R T hρ) fun e a₁ w₁ hp => ?_
    obtain ⟨rfl, h2, h3, φ₁, A₁, h4, h5⟩ := hp
    simp only [exOf, Exit.then]
    exact rounds_mono (fun e a' w' hp => hp.trans h4 h3 h2) k a₁ w₁ (hk φ₁ A₁ w₁ a₁ (by rw [h3]; exact hok) h4.rel h4.tot h5)
  · rename_i hne
    refine ⟨1, fun φ A w a hok R T hρ => ?_⟩
    rw [rounds_succ]
    refine wp_mono (hrun b ρ σ _ _ _ h φ A w a hok R T hρ) fun e a₁ w₁ hp => ?_
    obtain ⟨rfl, h2⟩ := hp
    cases ex with
    | normal => exact (hne _ _ h).elim
    | ret => exact ⟨rfl, h2⟩
    | exit i => exact ⟨rfl, h2⟩

theorem execF_sound {H : CallFn} {draw : CallFn → List Oper → Env → St → Option (Env × St)} {run : Code → Env → St → Out} (hrun : RunOK P run) (hloop : LoopOK P run) (hcall : CallOK P (callW P H run)) (hdraw : DrawOK P (callW P H run) (draw (callW P H run))) :
    RunOK P (execF P H draw run) := by
  intro c ρ σ ex ρ' σ' h φ A w a hok R T hρ
  cases c with
  | skip => cases h; exact wp_skip ⟨rfl, rfl, rfl, φ, A, Behind.same R T, hρ⟩
  | label l => cases h; exact wp_label ⟨rfl, rfl, rfl, φ, A, Behind.same R T, hρ⟩
  | ret => cases h; exact wp_ret ⟨rfl, rfl, rfl, φ, A, Behind.same R T, hρ⟩
  | exit i => cases h; exact wp_exit ⟨rfl, rfl, rfl, φ, A, Behind.same R T, hρ⟩
  | region id ops d =>
    cases d with
    | false =>
      simp only [execF, Option.map_eq_some_iff] at h
      obtain ⟨⟨ρ₁, σ₁⟩, h1, h2⟩ := h
      cases h2
      refine wp_region ?_
      have := opsSeq_sound (Q := Post .normal ρ₁ σ₁ φ A w a) hcall ops.toList 0 σ φ A w ρ a ρ₁ σ₁ (fun j => by simp) R T hρ hok h1
        (fun a' w' φ' A' hb hρ' hs hd => ⟨rfl, hd, hs, φ', A', hb, hρ'⟩)
      rw [List.range_eq_range']
      simpa using this
    | true =>
      simp only [execF, Option.map_eq_some_iff] at h
      obtain ⟨⟨ρ₁, σ₁⟩, h1, h2⟩ := h
      cases h2
      exact hdraw ops ρ σ ρ₁ σ₁ h1 φ A w a id hok R T hρ
  | seq x y =>
    simp only [codeOk, Bool.and_eq_true] at hok
    simp only [execF] at h
    refine wp_seq ?_
    split at h
    · rename_i ρ₁ σ₁ h1
      refine wp_mono (hrun x ρ σ _ _ _ h1 φ A w a hok.1 R T hρ) fun e a₁ w₁ hp => ?_
      obtain ⟨rfl, h2, h3, φ₁, A₁, h4, h5⟩ := hp
      simp only [exOf, Exit.then]
      exact wp_mono (hrun y ρ₁ σ₁ _ _ _ h φ₁ A₁ w₁ a₁ (by rw [h3]; exact hok.2) h4.rel h4.tot h5) fun e a' w' hp => hp.trans h4 h3 h2
    · rename_i hne
      refine wp_mono (hrun x ρ σ _ _ _ h φ A w a hok.1 R T hρ) fun e a₁ w₁ hp => ?_
      obtain ⟨rfl, h2⟩ := hp
      cases ex with
      | normal => exact (hne _ _ h).elim
      | ret => exact ⟨rfl, h2⟩
      | exit i => exact ⟨rfl, h2⟩
  | cond x p q =>
    simp only [codeOk, Bool.and_eq_true] at hok
    simp only [execF] at h
    split at h
    · rename_i t hx
      have e1 := ev_sound hρ hx
      simp only [VR] at e1
      refine wp_cond e1 ?_
      cases t with
      | true => exact hrun p ρ σ _ _ _ (by simpa using h) φ A w a hok.1 R T hρ
      | false => exact hrun q ρ σ _ _ _ (by simpa using h) φ A w a hok.2 R T hρ
    · cases h
  | block id b =>
    simp only [codeOk] at hok
    simp only [execF] at h
    refine wp_block ?_
    split at h
    · rename_i i ρ₁ σ₁ h1
      refine wp_mono (hrun b ρ σ _ _ _ h1 φ A w a hok R T hρ) fun e a₁ w₁ hp => ?_
      obtain ⟨rfl, h2⟩ := hp
      cases hb : Nat.beq i id with
      | true =>
        rw [hb] at h
        cases h
        rw [nbeq, decide_eq_true_eq] at hb
        subst hb
        simp only [exOf, Exit.inBlock]
        simp only [beq_self_eq_true, if_true]
        exact ⟨rfl, h2⟩
      | false =>
        rw [hb] at h
        cases h
        rw [nbeq, decide_eq_false_iff_not] at hb
        simp only [exOf, Exit.inBlock]
        rw [if_neg (by simpa using hb)]
        exact ⟨rfl, h2⟩
    · rename_i hne
      refine wp_mono (hrun b ρ σ _ _ _ h φ A w a hok R T hρ) fun e a₁ w₁ hp => ?_
      obtain ⟨rfl, h2⟩ := hp
      cases ex with
      | normal => exact ⟨rfl, h2⟩
      | ret => exact ⟨rfl, h2⟩
      | exit i => exact (hne _ _ _ h).elim
  | loop b =>
    simp only [codeOk] at hok
    obtain ⟨k, hk⟩ := loop_sound hrun hloop b ρ σ ex ρ' σ' h
    exact wp_loop_rounds k (hk φ A w a hok R T hρ)
  | scope b =>
    simp only [codeOk] at hok
    simp only [execF] at h
    refine wp_scope_straight (wp_mono (hrun b ρ σ _ _ _ h φ A w a hok R T hρ) fun e a₁ w₁ hp => ?_)
    obtain ⟨rfl, h2⟩ := hp
    cases ex with
    | normal => exact ⟨rfl, h2⟩
    | ret => exact ⟨rfl, h2⟩
    | exit i => exact ⟨rfl, h2⟩
  | goto l => simp [execF] at h
  | rangeFunc _ _ _ _ => simp [execF] at h
  | refuse _ => simp [execF] at h
end
end
end Go.Ev
/- Calls: what the evaluator says of them is so. -/
namespace Go.Ev
open Go
noncomputable section
variable [Tok]

omit [Tok] in
theorem dstOk_mono {N N' : Nat} (h : N ≤ N') {o : Oper} (ho : dstOk N o = true) : dstOk N' o = true := by
  unfold dstOk at *
  split at ho
  · rename_i d hd
    rw [nblt, decide_eq_true_eq] at *
    omega
  · rfl

omit [Tok] in
theorem codeOk_mono {N N' : Nat} (h : N ≤ N') : ∀ c, codeOk N c = true → codeOk N' c = true := by
  intro c
  induction c with
  | region id ops d =>
    simp only [codeOk, List.all_eq_true]
    exact fun hc o ho => dstOk_mono h (hc o ho)
  | seq a b iha ihb => simp only [codeOk, Bool.and_eq_true]; exact fun hc => ⟨iha hc.1, ihb hc.2⟩
  | cond x a b iha ihb => simp only [codeOk, Bool.and_eq_true]; exact fun hc => ⟨iha hc.1, ihb hc.2⟩
  | block id b ih => simpa only [codeOk] using ih
  | loop b ih => simpa only [codeOk] using ih
  | scope b ih => simpa only [codeOk] using ih
  | _ => simp [codeOk]

theorem initEnv_sound {φ : Place} {A : Nat → Prop} {h : Array Obj} {a : Act} : ∀ (l : List AV) (i : Nat) (ρ : Env), ER φ A h ρ a → VRL φ A h l (fun j => a.tmps[i + j]?) → ER φ A h (initEnv i l ρ) a
  | [], _, _, hρ, _ => hρ
  | x :: r, i, ρ, hρ, hl => by
    simp only [VRL] at hl
    obtain ⟨⟨v, h1, h2⟩, h3⟩ := hl
    simp only [initEnv]
    refine initEnv_sound r (i + 1) _ (fun t y hy => ?_) ?_
    · rw [Tr.get_set] at hy
      by_cases e : t = i
      · subst e; rw [if_pos rfl] at hy; cases hy; exact ⟨v, h1, h2⟩
      · rw [if_neg e] at hy; exact hρ t y hy
    · have : (fun j => a.tmps[i + 1 + j]?) = fun j => a.tmps[i + (j + 1)]? := by funext j; rw [Nat.add_assoc, Nat.add_comm 1 j]
      rw [this]; exact h3

section
variable {P : Program} {σ : St} {φ : Place} {A : Nat → Prop} {w : World} {ρ : Env} {a : Act}

def resOne (tmps : Array Value) : ResultVar → Sem Value
  | .tmp t => pure (tmps.getD t undef)
  | .cell a t => do loadVar t (← asAddr (tmps.getD a undef))

omit [Tok] in
theorem results_eq (fn : Func) (tmps : Array Value) : results fn tmps = (do
    let vs ← fn.results.mapM (resOne tmps)
    pure (if h : vs.size = 1 then vs[0] else .tuple vs)) := by
  unfold results resOne
  rfl

theorem resultsAV_sound (R : Rel σ φ A w.heap) (hρ : ER φ A w.heap ρ a) : ∀ (l : List ResultVar) (vs : List AV), resultsAV P σ ρ l = some vs →
    ∃ us : List Value, (l.mapM (resOne a.tmps)).run P w = .ok us w ∧ us.length = vs.length ∧ VRL φ A w.heap vs (fun i => us[i]?)
  | [], vs, h => by
    simp [resultsAV] at h
    subst h
    exact ⟨[], by simp, rfl, by simp only [VRL]⟩
  | r :: l, vs, h => by
    have step : ∀ (x : AV) (v : Value) (ys : List AV), (resOne a.tmps r).run P w = .ok v w → VR φ A w.heap x v → resultsAV P σ ρ l = some ys → 
        ∃ us : List Value, ((r :: l).mapM (resOne a.tmps)).run P w = .ok us w ∧ us.length = (x :: ys).length ∧ VRL φ A w.heap (x :: ys) (fun i => us[i]?) := fun x v ys h1 h2 h3 => by
      obtain ⟨us, h4, h5, h6⟩ := resultsAV_sound R hρ l ys h3
      refine ⟨v :: us, by simp [List.mapM_cons, h1, h4], by simp [h5], ?_⟩
      simp only [VRL]
      exact ⟨⟨v, rfl, h2⟩, h6⟩
    cases r with
    | tmp t =>
      simp only [resultsAV] at h
      split at h
      · rename_i x ys h1 h2
        cases h
        obtain ⟨v, h3, h4⟩ := hρ _ _ h1
        refine step x v ys ?_ h4 h2
        simp [resOne, Array.getD_eq_getD_getElem?, h3]
      · cases h
    | cell c t =>
      simp only [resultsAV] at h
      split at h
      · rename_i x ys h1 h2
        cases h
        simp only [Option.bind_eq_some_iff] at h1
        obtain ⟨z, h3, h4⟩ := h1
        obtain ⟨v, h5, h6⟩ := hρ _ _ h3
        obtain ⟨ad, u, h7, h8, h9⟩ := loadAV_sound R h6 h4
        refine step x u ys ?_ h9 h2
        simp [resOne, Array.getD_eq_getD_getElem?, h5, h7, asAddr, h8]
      · cases h

theorem results_sound (R : Rel σ φ A w.heap) (hρ : ER φ A w.heap ρ a) {fn : Func} {vs : List AV} (h : resultsAV P σ ρ fn.results.toList = some vs) :
    ∃ v, (results fn a.tmps).run P w = .ok v w ∧ VR φ A w.heap (resAV vs) v := by
  obtain ⟨us, h1, h2, h3⟩ := resultsAV_sound R hρ _ _ h
  rw [results_eq, Array.mapM_eq_mapM_toList]
  simp only [map_eq_pure_bind, bind_assoc, pure_bind, Sem.run_bind, h1, Result.andThen_ok, Sem.run_pure]
  match vs, us, h2 with
  | [x], [u], _ =>
    refine ⟨u, by simp, ?_⟩
    simp only [VRL] at h3
    obtain ⟨⟨v, h4, h5⟩, _⟩ := h3
    cases h4
    exact h5
  | [], [], _ => exact ⟨.tuple #[], by simp, by simp only [resAV, VR]; exact ⟨#[], rfl, rfl, by simp only [VRL]⟩⟩
  | x :: y :: r, u :: v :: s, e => 
    refine ⟨.tuple (u :: v :: s).toArray, by simp, ?_⟩
    simp only [resAV, VR]
    exact ⟨_, rfl, by simpa using e, by simpa using h3⟩

def progOk (P : Program) : Prop := ∀ (f : Nat) (fn : Func) (c : Code), P.funcs[f]? = some fn → fn.body = some c → codeOk fn.ntmps c = true ∧ (fn.name == "runtime.NumGoroutine") = false

omit [Tok] in
theorem callFunc_enter {f : FuncId} {fn : Func} {c : Code} (hf : P.funcs[f]? = some fn) (hb : fn.body = some c) (hn : (fn.name == "runtime.NumGoroutine") = false) (args : Array Value) :
    (callFunc f args).run P w = .ok (.enter f args) w := by
  unfold callFunc
  have hn' : ¬ fn.name = "runtime.NumGoroutine" := by simpa using hn
  simp [hf, hb, hn']

theorem callW_sound (hP : progOk P) {H : CallFn} (hH : CallOK P H) {run : Code → Env → St → Out} (hrun : RunOK P run) : CallOK P (callW P H run) := by
  intro f args σ r σ' h φ A w cargs R T hs hl
  unfold callW at h
  split at h
  · rename_i r' hr
    cases h
    exact hH f args σ r σ' hr φ A w cargs R T hs hl
  · split at h
    · cases h
    · rename_i fn hf
      split at h
      · rename_i hb
        split at h
        · rename_i vs hvs
          split at h
          · rename_i v hv
            cases h
            left
            have hc : cargs = vs.toArray := by
              obtain rfl := vals?_map _ _ hvs
              apply Array.ext_getElem?
              intro i
              by_cases hi : i < vs.length
              · obtain ⟨u, h1, h2⟩ := VRL.get _ _ hl i (.lit vs[i]) (by simp [hi])
                simp only [VR] at h2
                rw [h1, h2]
                simp [hi]
              · simp at hs
                rw [Array.getElem?_eq_none (by omega), Array.getElem?_eq_none (by simp; omega)]
            rw [hc]
            exact ⟨v, w, φ, A, pureRun_sound _ hv w, Behind.same R T, by simp only [VR]⟩
          · cases h
        · cases h
      · rename_i c hb
        obtain ⟨hok, hn⟩ := hP f fn c hf hb
        right
        refine ⟨callFunc_enter hf hb hn _, calls_of_wp hf hb ?_⟩
        have fin : ∀ (ex : Ex) (ρ' : Env) (σ₂ : St) (vs : List AV), (ex = .normal ∨ ex = .ret) → run c (initEnv 0 args .nil) σ = some (ex, ρ', σ₂) → resultsAV P σ₂ ρ' fn.results.toList = some vs → resAV vs = r → σ₂ = σ' → 
            c.wp P (bodyPost P fn fun e w' => ∃ v φ' A', e = .returned v ∧ Behind σ' φ A w φ' A' w' ∧ VR φ' A' w'.heap r v) { tmps := cargs ++ Array.replicate (fn.ntmps - cargs.size) undef, defers := [] } w := fun ex ρ' σ₂ vs hex h1 h2 h3 h4 => by
          subst h4
          refine wp_mono (hrun _ _ _ _ _ _ h1 φ A w _ (codeOk_mono (by simp; omega) c hok) R T (initEnv_sound _ _ _ (fun t y hy => by rw [Tr.get_nil] at hy; cases hy) ?_)) fun e a' w' hp => ?_
          · refine VRL.of _ _ fun i z hz => ?_
            obtain ⟨v, h5, h6⟩ := VRL.get _ _ hl i z hz
            have hi : i < cargs.size := by
              rcases Nat.lt_or_ge i cargs.size with hi | hi
              · exact hi
              · rw [Array.getElem?_eq_none hi] at h5; cases h5
            refine ⟨v, ?_, h6⟩
            simp only [Nat.zero_add]
            rw [Array.getElem?_append_left hi]
            exact h5
          · obtain ⟨he, hd, _, φ', A', hb', hρ'⟩ := hp
            obtain ⟨v, h5, h6⟩ := results_sound hb'.rel hρ' h2
            subst he
            rcases hex with rfl | rfl
            · exact ⟨hd, v, h5, v, φ', A', rfl, hb', h3 ▸ h6⟩
            · exact ⟨hd, v, h5, v, φ', A', rfl, hb', h3 ▸ h6⟩
        split at h
        · rename_i ρ' σ₂ h1
          simp only [Option.map_eq_some_iff] at h
          obtain ⟨vs, h2, h3⟩ := h
          cases h3
          exact fin _ _ _ _ (.inl rfl) h1 h2 rfl rfl
        · rename_i ρ' σ₂ h1
          simp only [Option.map_eq_some_iff] at h
          obtain ⟨vs, h2, h3⟩ := h
          cases h3
          exact fin _ _ _ _ (.inr rfl) h1 h2 rfl rfl
        · cases h

/-- The evaluator is sound, where it is sound at a statement whose order is open. -/
theorem exec_sound (hP : progOk P) {H : CallFn} (hH : CallOK P H) (hdraw : ∀ call, CallOK P call → DrawOK P call (drawRun P call)) : ∀ n, RunOK P (exec P H n) ∧ LoopOK P (exec P H n)
  | 0 => ⟨fun _ _ _ _ _ _ h => by simp [exec] at h, fun _ _ _ _ _ _ h => by simp [exec] at h⟩
  | n + 1 => by
    obtain ⟨h1, h2⟩ := exec_sound hP hH hdraw n
    have h3 := callW_sound hP hH h1
    exact ⟨execF_sound h1 h2 h3 (hdraw _ h3), loop_sound h1 h2⟩

theorem call_sound (hP : progOk P) {H : CallFn} (hH : CallOK P H) (hdraw : ∀ call, CallOK P call → DrawOK P call (drawRun P call)) (n : Nat) : CallOK P (call P H n) :=
  callW_sound hP hH (exec_sound hP hH hdraw n).1
end
end
end Go.Ev
/- An operation looks only at its temporaries, and, where it does not look into memory, at no memory. -/
namespace Go.Ev
open Go
noncomputable section
variable [Tok]

/-- An operation's value, and the memory behind it. -/
def opV (P : Program) (call : CallFn) (ops : List Oper) (o : Oper) (ρ : Env) (σ : St) : Option (AV × St) :=
  match wantedAV ρ ops o with
  | none => none
  | some false => some (.lit undef, σ)
  | some true =>
    match kindOf o with
    | 0 => match o.op with
      | .build t parts => (buildAV P ρ t parts.toList).map fun v => (v, σ)
      | _ => (qop P σ ρ o).map fun v => (v, σ)
    | 1 => (aop P ρ o).map fun (e, mk) => (mk σ.next, (σ.new e).2)
    | _ => eop P call σ ρ o

theorem op1_eq (P : Program) (call : CallFn) (ops : List Oper) (o : Oper) (ρ : Env) (σ : St) :
    op1 P call ops o ρ σ = (opV P call ops o ρ σ).map fun (x, σ') => (putD ρ o.dst x, σ') := by
  unfold op1 opV
  cases wantedAV ρ ops o with
  | none => rfl
  | some b => cases b with
    | false => rfl
    | true =>
      simp only
      generalize kindOf o = k
      match k with
      | 0 =>
        obtain ⟨dst, op, type, pos, after, guard⟩ := o
        cases op <;> simp only [Option.map_map] <;> rfl
      | 1 => simp only [Option.map_map]; rfl
      | _ + 2 => rfl

section
variable {P : Program} {ρ ρ' : Env}

omit [Tok] in
theorem evs_congr : ∀ (l : List Operand), (∀ x ∈ l, ev ρ x = ev ρ' x) → evs ρ l = evs ρ' l
  | [], _ => rfl
  | x :: r, h => by
    simp only [evs]
    rw [h x (by simp), evs_congr r fun y hy => h y (by simp [hy])]

omit [Tok] in
theorem evParts_congr : ∀ (l : List (Nat × Operand)), (∀ x ∈ l.map (·.2), ev ρ x = ev ρ' x) → evParts ρ l = evParts ρ' l
  | [], _ => rfl
  | (i, x) :: r, h => by
    simp only [evParts]
    rw [h x (by simp), evParts_congr r fun y hy => h y (by simp at hy ⊢; exact .inr hy)]

omit [Tok] in
theorem modelOp_congr {o : Oper} (hs : ∀ cs b, o.op ≠ .select cs b) (h : ∀ x ∈ o.op.operands, ev ρ x = ev ρ' x) : modelOp P ρ o = modelOp P ρ' o := by
  have h1 : litsOf ρ o.op.operands.toList = litsOf ρ' o.op.operands.toList := by
    unfold litsOf
    have : ∀ l : List Operand, (∀ x ∈ l, ev ρ x = ev ρ' x) → (l.all fun x => ((ev ρ x).bind AV.toVal?).isSome) = l.all fun x => ((ev ρ' x).bind AV.toVal?).isSome := by
      intro l
      induction l with
      | nil => intro _; rfl
      | cons x r ih => intro h; simp only [List.all_cons]; rw [h x (by simp), ih fun y hy => h y (by simp [hy])]
    exact this _ fun x hx => h x (by simpa using hx)
  have h2 : execOp (valOf ρ) o = execOp (valOf ρ') o := execOp_congr o hs fun x hx => by unfold valOf; rw [h x hx]
  unfold modelOp viaModel
  rw [h1, h2]

theorem qop_congr {σ : St} {o : Oper} (h : ∀ x ∈ o.op.operands, ev ρ x = ev ρ' x) : qop P σ ρ o = qop P σ ρ' o := by
  have hm : (∀ cs b, o.op ≠ .select cs b) → modelOp P ρ o = modelOp P ρ' o := fun hs => modelOp_congr hs h
  obtain ⟨dst, op, type, pos, after, guard⟩ := o
  cases op
  case select cs b => rfl
  case call c =>
    replace hm := hm (by intro _ _ h; cases h)
    obtain ⟨callee, args, ats⟩ := c
    cases callee with
    | value f => rfl
    | invoke r m => rfl
    | builtin b =>
      have ha : ∀ x ∈ args.toList, ev ρ x = ev ρ' x := fun x hx => h x (by simp [Op.operands, Call.operands]; simpa using hx)
      cases b <;> first
        | rfl
        | (simp only [qop]; exact hm)
        | (simp only [qop]
           rcases hl : args.toList with _ | ⟨x, _ | ⟨y, r⟩⟩
           · rfl
           · rw [hl] at ha
             cases ats[0]? with
             | none => first | rfl | simp only [ha x (by simp), hm]
             | some t => simp only [ha x (by simp), hm]
           · rfl)
  case makeFunc fn first captured =>
    cases fn with
    | func f =>
      simp only [qop]
      rw [evs_congr first.toList fun x hx => h x (by simp [Op.operands]; left; simpa using hx), evs_congr captured.toList fun x hx => h x (by simp [Op.operands]; right; simpa using hx)]
    | _ => rfl
  case slice t x lo hi mx =>
    replace hm := hm (by intro _ _ h; cases h)
    simp only [qop]
    rw [h x (by simp [Op.operands]), hm]
    have ho : ∀ y : Option Operand, (∀ z, y = some z → ev ρ z = ev ρ' z) → evo ρ y = evo ρ' y := fun y hy => by
      cases y with
      | none => rfl
      | some z => simp only [evo]; rw [hy z rfl]
    rw [ho lo fun z hz => h z (by subst hz; simp [Op.operands]), ho hi fun z hz => h z (by subst hz; simp [Op.operands]), ho mx fun z hz => h z (by subst hz; simp [Op.operands])]
  all_goals first
    | rfl
    | (replace hm := hm (by intro _ _ h; cases h)
       simp only [Op.operands, List.mem_toArray, List.mem_cons, List.not_mem_nil, or_false, forall_eq_or_imp, forall_eq] at h
       simp only [qop, h, hm]; done)
    | (replace hm := hm (by intro _ _ h; cases h)
       simp only [Op.operands, List.mem_toArray, List.mem_cons, List.not_mem_nil, or_false, forall_eq_or_imp, forall_eq] at h
       obtain ⟨h1, h2⟩ := h
       simp only [qop, h1, h2, hm]; done)

omit [Tok] in
theorem buildAV_congr {t : TypeId} {parts : List (Nat × Operand)} (h : ∀ x ∈ parts.map (·.2), ev ρ x = ev ρ' x) : buildAV P ρ t parts = buildAV P ρ' t parts := by
  unfold buildAV
  rw [evParts_congr _ h]

omit [Tok] in
theorem aop_congr {o : Oper} (h : ∀ x ∈ o.op.operands, ev ρ x = ev ρ' x) : aop P ρ o = aop P ρ' o := by
  obtain ⟨dst, op, type, pos, after, guard⟩ := o
  cases op
  case buildSlice t n ps =>
    simp only [aop]
    rw [evParts_congr ps.toList fun x hx => h x (by simp [Op.operands]; simpa using hx)]
  case makeMap t r =>
    simp only [aop]
    cases r with
    | none => rfl
    | some x => simp only [evo]; rw [h x (by simp [Op.operands])]
  all_goals first
    | rfl
    | (simp only [Op.operands, List.mem_toArray, List.mem_cons, List.not_mem_nil, or_false, forall_eq_or_imp, forall_eq] at h
       simp only [aop, h]; done)

omit [Tok] in
theorem eop_congr {call : CallFn} {σ : St} {o : Oper} (h : ∀ x ∈ o.op.operands, ev ρ x = ev ρ' x) : eop P call σ ρ o = eop P call σ ρ' o := by
  obtain ⟨dst, op, type, pos, after, guard⟩ := o
  cases op
  case call c =>
    obtain ⟨callee, args, ats⟩ := c
    have ha : evs ρ args.toList = evs ρ' args.toList := evs_congr _ fun x hx => h x (by simp [Op.operands, Call.operands]; right; simpa using hx)
    cases callee with
    | value f => simp only [eop]; rw [ha, h f (by simp [Op.operands, Call.operands])]
    | invoke r m => rfl
    | builtin b => cases b <;> first | rfl | (simp only [eop]; rw [ha])
  all_goals first
    | rfl
    | (simp only [Op.operands, List.mem_toArray, List.mem_cons, List.not_mem_nil, or_false, forall_eq_or_imp, forall_eq] at h
       simp only [eop, h]; done)

omit [Tok] in
theorem wantedAV_congr {ops : List Oper} {o : Oper} (h : ∀ t ∈ leans ops o, ρ.get t = ρ'.get t) : wantedAV ρ ops o = wantedAV ρ' ops o := by
  unfold wantedAV
  split
  · rfl
  · rename_i j w hg
    split
    · rename_i d hd
      rw [h d (by unfold leans; rw [hg]; simp only; rw [hd]; simp)]
    · rfl

omit [Tok] in
theorem leans_ev {ops : List Oper} {o : Oper} (h : ∀ t ∈ leans ops o, ρ.get t = ρ'.get t) : ∀ x ∈ o.op.operands, ev ρ x = ev ρ' x := fun x hx => by
  cases x with
  | tmp t =>
    simp only [ev]
    refine h t ?_
    unfold leans tmpsOf
    rw [List.mem_append]
    left
    exact List.mem_filterMap.2 ⟨.tmp t, by simpa using hx, rfl⟩
  | _ => rfl

theorem opV_congr {call : CallFn} {ops : List Oper} {o : Oper} {σ : St} (h : ∀ t ∈ leans ops o, ρ.get t = ρ'.get t) : opV P call ops o ρ σ = opV P call ops o ρ' σ := by
  have hx := leans_ev h
  unfold opV
  rw [wantedAV_congr h, qop_congr hx, aop_congr hx, eop_congr hx]
  cases wantedAV ρ' ops o with
  | none => rfl
  | some b => cases b with
    | false => rfl
    | true =>
      simp only
      generalize kindOf o = k
      match k with
      | 0 =>
        obtain ⟨dst, op, type, pos, after, guard⟩ := o
        cases op
        case build t parts =>
          simp only
          rw [buildAV_congr (parts := parts.toList) fun x hx' => hx x (by simp only [Op.operands]; simpa using hx')]
        all_goals rfl
      | 1 => rfl
      | _ + 2 => rfl

theorem qop_tr {σ σ' : St} (h : σ.tr = σ'.tr) (o : Oper) : qop P σ ρ o = qop P σ' ρ o := by
  obtain ⟨t, n⟩ := σ
  obtain ⟨t', n'⟩ := σ'
  simp only at h
  subst h
  rfl

theorem qop_quiet {o : Oper} (h : readsMem o = false) (σ σ' : St) : qop P σ ρ o = qop P σ' ρ o := by
  obtain ⟨dst, op, type, pos, after, guard⟩ := o
  cases op
  case call c =>
    obtain ⟨callee, args, ats⟩ := c
    cases callee with
    | value f => rfl
    | invoke r m => rfl
    | builtin b => cases b <;> first | rfl | cases h
  case makeFunc fn first captured => cases fn <;> rfl
  all_goals first | rfl | cases h
end
end
end Go.Ev
/- A memory of which not all blocks lie anywhere yet. -/
namespace Go.Ev
open Go
noncomputable section
variable [Tok]

def rowF (m : Nat → Option Ent) (b : Nat) : Option Row :=
  match m b with
  | some (.cells ty n t none tip ex) => some ⟨ty, n, t, none, tip, ex⟩
  | some (.cells ty n t (some g) tip ex) =>
    match m g with
    | some (.fam true) => some ⟨ty, n, t, some g, tip, ex⟩
    | _ => none
  | _ => none

omit [Tok] in
theorem rowF_some {m : Nat → Option Ent} {b : Nat} {r : Row} (h : rowF m b = some r) :
    m b = some (.cells r.ty r.n r.t r.grp r.tip r.ex) ∧ ∀ g, r.grp = some g → m g = some (.fam true) := by
  unfold rowF at h
  split at h
  · rename_i hb; cases h; exact ⟨hb, fun g hg => by cases hg⟩
  · rename_i hb
    split at h
    · rename_i hg; cases h; exact ⟨hb, fun g' hg' => by cases hg'; exact hg⟩
    · cases h
  · cases h

omit [Tok] in
theorem rowF_of {m : Nat → Option Ent} {b ty n : Nat} {t : Tr AV} {g : Option Nat} {tip ex : Bool} (h : m b = some (.cells ty n t g tip ex))
    (hg : ∀ x, g = some x → m x = some (.fam true)) : rowF m b = some ⟨ty, n, t, g, tip, ex⟩ := by
  unfold rowF
  rw [h]
  cases g with
  | none => rfl
  | some x => simp only [hg x rfl]

omit [Tok] in
theorem row_rowF {σ : St} {m : Nat → Option Ent} (hm : ∀ b e, σ.tr.get b = some e → m b = some e) {b : Nat} {r : Row} (h : σ.row b = some r) : rowF m b = some r := by
  obtain ⟨h1, h2⟩ := St.row_some h
  exact rowF_of (hm _ _ h1) fun x hx => hm _ _ (h2 x hx)

/-- As 'Rel', but of any entries, of which some may lie nowhere. -/
structure RelF (m : Nat → Option Ent) (φ : Place) (A : Nat → Prop) (h : Array Obj) : Prop where
  places : ∀ b c s, φ b = some (c, s) → c < h.size
  owned : ∀ c, A c → c < h.size
  rows : ∀ b r c s, rowF m b = some r → φ b = some (c, s) → A c ∧ ∃ arr : Array Value, h[c]? = some (Obj.cells arr r.ty (0, 0)) ∧ s + r.n ≤ arr.size ∧
    (r.ex = true → s = 0 ∧ r.n = arr.size) ∧ ∀ i x, i < r.n → r.t.get i = some x → ∃ v, arr[s + i]? = some v ∧ VR φ A h x v
  maps : ∀ b k es c s, m b = some (.mp k es) → φ b = some (c, s) → A c ∧ ∃ o : Obj, h[c]? = some o ∧ OR φ A h k es o
  apart : ∀ b b' r r' c s s', b ≠ b' → rowF m b = some r → rowF m b' = some r' → φ b = some (c, s) → φ b' = some (c, s') → ∃ g, r.grp = some g ∧ r'.grp = some g
  mapart : ∀ b b' k k' es es' c s s', b ≠ b' → m b = some (.mp k es) → m b' = some (.mp k' es') → φ b = some (c, s) → φ b' = some (c, s') → False
  tips : ∀ b b' r r' c s s', rowF m b = some r → r.tip = true → rowF m b' = some r' → φ b = some (c, s) → φ b' = some (c, s') → s' + r'.n ≤ s + r.n
  fams : ∀ g x, m g = some (.fam x) → φ g = none
  onetip : ∀ b b' r r' c s s', b ≠ b' → rowF m b = some r → rowF m b' = some r' → r.tip = true → r'.tip = true → φ b = some (c, s) → φ b' = some (c, s') → False

/-- As it says of a part of the entries, under a bound that no place passes. -/
theorem RelF.sub {m : Nat → Option Ent} {φ : Place} {A : Nat → Prop} {h : Array Obj} (F : RelF m φ A h) {σ : St} (hm : ∀ b e, σ.tr.get b = some e → m b = some e)
    (hb : ∀ b e, σ.tr.get b = some e → b < σ.next) (hg : ∀ b ty n t g tip ex, σ.tr.get b = some (.cells ty n t (some g) tip ex) → g < σ.next) (hf : ∀ b x, φ b = some x → b < σ.next) : Rel σ φ A h where
  below := hb
  gbelow := hg
  fresh := hf
  places := F.places
  owned := F.owned
  rows := fun b r c s hr hp => F.rows b r c s (row_rowF hm hr) hp
  maps := fun b k es c s hr hp => F.maps b k es c s (hm _ _ hr) hp
  apart := fun b b' r r' c s s' hne hr hr' hp hp' => F.apart b b' r r' c s s' hne (row_rowF hm hr) (row_rowF hm hr') hp hp'
  mapart := fun b b' k k' es es' c s s' hne hr hr' hp hp' => F.mapart b b' k k' es es' c s s' hne (hm _ _ hr) (hm _ _ hr') hp hp'
  tips := fun b b' r r' c s s' hr ht hr' hp hp' => F.tips b b' r r' c s s' (row_rowF hm hr) ht (row_rowF hm hr') hp hp'
  fams := fun g x hg => F.fams g x (hm _ _ hg)
  onetip := fun b b' r r' c s s' hne hr hr' ht ht' hp hp' => F.onetip b b' r r' c s s' hne (row_rowF hm hr) (row_rowF hm hr') ht ht' hp hp'

/-- A block that lay nowhere is made. -/
theorem RelF.made {m : Nat → Option Ent} {φ : Place} {A : Nat → Prop} {h : Array Obj} (F : RelF m φ A h) {b : Nat} {e : Ent} {o : Obj} (hb : m b = some e) (hn : φ b = none) (ok : NewOk φ A h e o) :
    RelF m (φadd φ b (h.size, 0)) (fun c => A c ∨ c = h.size) (h.push o) := by
  have E := ext_push (A := A) (h := h) hn o
  have old : ∀ c, c < h.size → (h.push o)[c]? = h[c]? := fun c hc => by rw [push_get, if_neg (by omega)]
  have newrow : ∀ r, rowF m b = some r → e = .cells r.ty r.n r.t r.grp r.tip r.ex := fun r hr => by
    have := (rowF_some hr).1
    rw [hb] at this
    exact Option.some.inj this
  refine ⟨fun b x s hb => ?_, fun c hc => ?_, fun b r c s hr hp => ?_, fun b k es c s hb' hp => ?_,
    fun b b' r r' c s s' hne hr hr' hp hp' => ?_, fun b b' k k' es es' c s s' hne hb hb' hp hp' => ?_, fun b b' r r' c s s' hr ht hr' hp hp' => ?_, fun g x hg => ?_, fun b b' r r' c s s' hne hr hr' ht ht' hp hp' => ?_⟩
  · rw [Array.size_push]
    rcases φadd_eq hb with ⟨_, h1⟩ | ⟨_, h1⟩
    · cases h1; omega
    · have := F.places _ _ _ h1; omega
  · rw [Array.size_push]
    rcases hc with h1 | h1
    · have := F.owned _ h1; omega
    · omega
  · rcases φadd_eq hp with ⟨h1, h2⟩ | ⟨h1, h2⟩
    · subst h1
      cases h2
      obtain ⟨arr, ho, hn, hex, hc⟩ := ok.row _ _ _ _ _ _ (newrow r hr)
      refine ⟨.inr rfl, arr, by rw [push_get, if_pos rfl, ho], by omega, fun hx => ⟨rfl, hex hx⟩, fun i x hi hx => ?_⟩
      obtain ⟨v, h3, h4⟩ := hc i x hi hx
      exact ⟨v, by rw [Nat.zero_add]; exact h3, VR.mono E x v h4⟩
    · obtain ⟨ha, arr, h3, h4, h5, h6⟩ := F.rows b r c s hr h2
      refine ⟨.inl ha, arr, by rw [old c (lt_of_get h3)]; exact h3, h4, h5, fun i x hi hx => ?_⟩
      obtain ⟨v, h7, h8⟩ := h6 i x hi hx
      exact ⟨v, h7, VR.mono E x v h8⟩
  · rcases φadd_eq hp with ⟨h1, h2⟩ | ⟨h1, h2⟩
    · subst h1
      rw [hb] at hb'
      cases h2
      exact ⟨.inr rfl, o, by rw [push_get, if_pos rfl], OR.mono E (ok.mp k es (Option.some.inj hb'))⟩
    · obtain ⟨ha, o', h3, h4⟩ := F.maps b k es c s hb' h2
      exact ⟨.inl ha, o', by rw [old c (lt_of_get h3)]; exact h3, OR.mono E h4⟩
  · rcases φadd_eq hp with ⟨h1, h2⟩ | ⟨h1, h2⟩ <;> rcases φadd_eq hp' with ⟨h3, h4⟩ | ⟨h3, h4⟩
    · exact (hne (h1.trans h3.symm)).elim
    · cases h2; have := F.places _ _ _ h4; omega
    · cases h4; have := F.places _ _ _ h2; omega
    · exact F.apart b b' r r' c s s' hne hr hr' h2 h4
  · rcases φadd_eq hp with ⟨h1, h2⟩ | ⟨h1, h2⟩ <;> rcases φadd_eq hp' with ⟨h3, h4⟩ | ⟨h3, h4⟩
    · exact (hne (h1.trans h3.symm)).elim
    · cases h2; have := F.places _ _ _ h4; omega
    · cases h4; have := F.places _ _ _ h2; omega
    · exact F.mapart b b' k k' es es' c s s' hne hb hb' h2 h4
  · rcases φadd_eq hp with ⟨h1, h2⟩ | ⟨h1, h2⟩ <;> rcases φadd_eq hp' with ⟨h3, h4⟩ | ⟨h3, h4⟩
    · subst h1; subst h3; cases h2; cases h4
      rw [hr] at hr'; cases hr'; exact Nat.le_refl _
    · cases h2; have := F.places _ _ _ h4; omega
    · cases h4; have := F.places _ _ _ h2; omega
    · exact F.tips b b' r r' c s s' hr ht hr' h2 h4
  · by_cases e1 : g = b
    · subst e1; rw [hb] at hg; exact (ok.fam x (Option.some.inj hg)).elim
    · unfold φadd; rw [if_neg e1]; exact F.fams g x hg
  · rcases φadd_eq hp with ⟨h1, h2⟩ | ⟨h1, h2⟩ <;> rcases φadd_eq hp' with ⟨h3, h4⟩ | ⟨h3, h4⟩
    · exact hne (h1.trans h3.symm)
    · cases h2; have := F.places _ _ _ h4; omega
    · cases h4; have := F.places _ _ _ h2; omega
    · exact F.onetip b b' r r' c s s' hne hr hr' ht ht' h2 h4

mutual
/-- All blocks that a value names are below a bound. -/
def Sc (n : Nat) : AV → Prop
  | .lit _ => True
  | .var _ => True
  | .ptr b _ => b < n
  | .cptr cs => ScL n cs
  | .sl b _ _ _ _ => b < n
  | .psl len _ cs => len = 0 ∨ ScL n cs
  | .agg cs => ScL n cs
  | .tup cs => ScL n cs
  | .map b => b < n
  | .chan b => b < n
  | .fn _ a b => ScL n a ∧ ScL n b
def ScL (n : Nat) : List AV → Prop
  | [] => True
  | x :: r => Sc n x ∧ ScL n r
end

mutual
theorem VR.sc {φ : Place} {A : Nat → Prop} {h : Array Obj} {n : Nat} (hf : ∀ b x, φ b = some x → b < n) : ∀ (x : AV) (v : Value), VR φ A h x v → Sc n x
  | .lit _, _, _ => trivial
  | .var _, _, _ => trivial
  | .ptr b off, cv, hv => by simp only [VR] at hv; obtain ⟨c, s, h1, _⟩ := hv; simp only [Sc]; exact hf _ _ h1
  | .cptr cs, cv, hv => by simp only [VR] at hv; obtain ⟨c, o, _, _, _, h1⟩ := hv; simp only [Sc]; exact VRL.sc hf cs _ h1
  | .sl b off len k cap, cv, hv => by simp only [VR] at hv; obtain ⟨c, s, a, cc, h1, _⟩ := hv; simp only [Sc]; exact hf _ _ h1
  | .psl len k cs, cv, hv => by simp only [VR] at hv; obtain ⟨a, cc, _, _, _, h1⟩ := hv; simp only [Sc]; exact h1.imp id fun h => VRL.sc hf cs _ h.2.2.2
  | .agg cs, cv, hv => by simp only [VR] at hv; obtain ⟨arr, _, _, h1⟩ := hv; simp only [Sc]; exact VRL.sc hf cs _ h1
  | .tup cs, cv, hv => by simp only [VR] at hv; obtain ⟨arr, _, _, h1⟩ := hv; simp only [Sc]; exact VRL.sc hf cs _ h1
  | .map b, cv, hv => by simp only [VR] at hv; obtain ⟨c, s, h1, _⟩ := hv; simp only [Sc]; exact hf _ _ h1
  | .chan b, cv, hv => by simp only [VR] at hv; obtain ⟨c, s, h1, _⟩ := hv; simp only [Sc]; exact hf _ _ h1
  | .fn f first cap, cv, hv => by simp only [VR] at hv; obtain ⟨a, b, _, _, h1, _, h2⟩ := hv; simp only [Sc]; exact ⟨VRL.sc hf first _ h1, VRL.sc hf cap _ h2⟩
theorem VRL.sc {φ : Place} {A : Nat → Prop} {h : Array Obj} {n : Nat} (hf : ∀ b x, φ b = some x → b < n) : ∀ (l : List AV) (f : Nat → Option Value), VRL φ A h l f → ScL n l
  | [], _, _ => trivial
  | x :: r, f, hl => by simp only [VRL] at hl; obtain ⟨⟨v, _, h1⟩, h2⟩ := hl; simp only [ScL]; exact ⟨VR.sc hf x v h1, VRL.sc hf r _ h2⟩
end

/-- A place map below a bound. -/
def cut (φ : Place) (n : Nat) : Place := fun b => if b < n then φ b else none

omit [Tok] in
theorem cut_some {φ : Place} {n b : Nat} {x : Nat × Nat} : cut φ n b = some x ↔ b < n ∧ φ b = some x := by
  unfold cut
  split
  · rename_i h; exact ⟨fun e => ⟨h, e⟩, fun e => e.2⟩
  · rename_i h; exact ⟨fun e => (nomatch e), fun e => (h e.1).elim⟩

mutual
theorem VR.cut {φ : Place} {A : Nat → Prop} {h : Array Obj} {n : Nat} : ∀ (x : AV) (v : Value), VR φ A h x v → Sc n x → VR (cut φ n) A h x v
  | .lit _, _, hv, _ => by simpa only [VR] using hv
  | .var _, _, hv, _ => by simpa only [VR] using hv
  | .ptr b off, cv, hv, hs => by
    simp only [VR, Sc] at hv hs ⊢
    obtain ⟨c, s, h1, h2⟩ := hv
    exact ⟨c, s, cut_some.2 ⟨hs, h1⟩, h2⟩
  | .cptr cs, cv, hv, hs => by
    simp only [VR, Sc] at hv hs ⊢
    obtain ⟨c, o, h1, h2, h3, h4⟩ := hv
    exact ⟨c, o, h1, h2, h3, VRL.cut cs _ h4 hs⟩
  | .sl b off len k cap, cv, hv, hs => by
    simp only [VR, Sc] at hv hs ⊢
    obtain ⟨c, s, a, cc, h1, h2⟩ := hv
    exact ⟨c, s, a, cc, cut_some.2 ⟨hs, h1⟩, h2⟩
  | .psl len k cs, cv, hv, hs => by
    simp only [VR, Sc] at hv hs ⊢
    obtain ⟨a, cc, h1, h2, h3, h4⟩ := hv
    refine ⟨a, cc, h1, h2, h3, ?_⟩
    rcases h4 with h4 | ⟨s1, s2, s3, s4⟩
    · exact .inl h4
    · rcases hs with hs | hs
      · exact .inl hs
      · exact .inr ⟨s1, s2, s3, VRL.cut cs _ s4 hs⟩
  | .agg cs, cv, hv, hs => by
    simp only [VR, Sc] at hv hs ⊢
    obtain ⟨arr, h1, h2, h3⟩ := hv
    exact ⟨arr, h1, h2, VRL.cut cs _ h3 hs⟩
  | .tup cs, cv, hv, hs => by
    simp only [VR, Sc] at hv hs ⊢
    obtain ⟨arr, h1, h2, h3⟩ := hv
    exact ⟨arr, h1, h2, VRL.cut cs _ h3 hs⟩
  | .map b, cv, hv, hs => by
    simp only [VR, Sc] at hv hs ⊢
    obtain ⟨c, s, h1, h2⟩ := hv
    exact ⟨c, s, cut_some.2 ⟨hs, h1⟩, h2⟩
  | .chan b, cv, hv, hs => by
    simp only [VR, Sc] at hv hs ⊢
    obtain ⟨c, s, h1, h2⟩ := hv
    exact ⟨c, s, cut_some.2 ⟨hs, h1⟩, h2⟩
  | .fn f first cap, cv, hv, hs => by
    simp only [VR, Sc] at hv hs ⊢
    obtain ⟨a, b, h1, h2, h3, h4, h5⟩ := hv
    exact ⟨a, b, h1, h2, VRL.cut first _ h3 hs.1, h4, VRL.cut cap _ h5 hs.2⟩
theorem VRL.cut {φ : Place} {A : Nat → Prop} {h : Array Obj} {n : Nat} : ∀ (l : List AV) (f : Nat → Option Value), VRL φ A h l f → ScL n l → VRL (cut φ n) A h l f
  | [], _, _, _ => by simp only [VRL]
  | x :: r, f, hl, hs => by
    simp only [VRL, ScL] at hl hs ⊢
    obtain ⟨⟨v, h1, h2⟩, h3⟩ := hl
    exact ⟨⟨v, h1, VR.cut x v h2 hs.1⟩, VRL.cut r _ h3 hs.2⟩
end

theorem MR.sc {φ : Place} {A : Nat → Prop} {h : Array Obj} {n : Nat} (hf : ∀ b x, φ b = some x → b < n) : ∀ (es : List (Value × AV)) (l : List MapEntry), MR φ A h es l → ∀ k x, (k, x) ∈ es → Sc n x
  | [], _, _, _, _, hk => by cases hk
  | (k', x') :: r, y :: ys, hm, k, x, hk => by
    rcases List.mem_cons.1 hk with e | e
    · cases e; exact VR.sc hf _ _ hm.2.1
    · exact MR.sc hf r ys hm.2.2 k x e
  | _ :: _, [], hm, _, _, _ => hm.elim

theorem MR.cut {φ : Place} {A : Nat → Prop} {h : Array Obj} {n : Nat} : ∀ (es : List (Value × AV)) (l : List MapEntry), MR φ A h es l → (∀ k x, (k, x) ∈ es → Sc n x) → MR (cut φ n) A h es l
  | [], [], _, _ => trivial
  | (k', x') :: r, y :: ys, hm, hs => ⟨hm.1, VR.cut _ _ hm.2.1 (hs k' x' (by simp)), MR.cut r ys hm.2.2 fun k x hk => hs k x (by simp [hk])⟩
  | [], _ :: _, hm, _ => hm.elim
  | _ :: _, [], hm, _ => hm.elim

theorem CR.sc {φ : Place} {A : Nat → Prop} {h : Array Obj} {n : Nat} (hf : ∀ b x, φ b = some x → b < n) : ∀ (es : List (Value × AV)) (ces : List Value), CR φ A h es ces → ∀ k x, (k, x) ∈ es → Sc n x
  | [], _, _, _, _, hk => by cases hk
  | (a, y) :: r, v :: vs, hm, k, x, hk => by
    rcases List.mem_cons.1 hk with e | hk
    · cases e; exact VR.sc hf _ _ hm.1
    · exact CR.sc hf r vs hm.2 k x hk
  | _ :: _, [], hm, _, _, _ => hm.elim

theorem CR.cut {φ : Place} {A : Nat → Prop} {h : Array Obj} {n : Nat} : ∀ (es : List (Value × AV)) (ces : List Value), CR φ A h es ces → (∀ k x, (k, x) ∈ es → Sc n x) → CR (Ev.cut φ n) A h es ces
  | [], [], _, _ => trivial
  | (a, y) :: r, v :: vs, hm, hs => ⟨VR.cut y v hm.1 (hs a y (by simp)), CR.cut r vs hm.2 (fun k x hk => hs k x (by simp [hk]))⟩
  | [], _ :: _, hm, _ => hm.elim
  | _ :: _, [], hm, _ => hm.elim

theorem OR.sc {φ : Place} {A : Nat → Prop} {h : Array Obj} {n : Nat} (hf : ∀ b x, φ b = some x → b < n) {k : Option Nat} {es : List (Value × AV)} {o : Obj} (ho : OR φ A h k es o) : ∀ y x, (y, x) ∈ es → Sc n x := by
  cases o with
  | map ces clk => exact MR.sc hf es _ ho.2
  | chan cap buf cl s r tm => exact CR.sc hf es _ ho.2.2.2
  | _ => exact ho.elim

theorem OR.cut {φ : Place} {A : Nat → Prop} {h : Array Obj} {n : Nat} {k : Option Nat} {es : List (Value × AV)} {o : Obj} (ho : OR φ A h k es o) (hs : ∀ y x, (y, x) ∈ es → Sc n x) : OR (Ev.cut φ n) A h k es o := by
  cases o with
  | map ces clk => exact ⟨ho.1, MR.cut es _ ho.2 hs⟩
  | chan cap buf cl s r tm => exact ⟨ho.1, ho.2.1, ho.2.2.1, CR.cut es _ ho.2.2.2 hs⟩
  | _ => exact ho.elim

/-- Well made: bounds, and what the entries name. -/
structure Wf (σ : St) : Prop where
  below : ∀ b e, σ.tr.get b = some e → b < σ.next
  gbelow : ∀ b ty n t g tip ex, σ.tr.get b = some (.cells ty n t (some g) tip ex) → g < σ.next
  rows : ∀ b r, σ.row b = some r → ∀ i x, i < r.n → r.t.get i = some x → Sc σ.next x
  maps : ∀ b k es, σ.tr.get b = some (.mp k es) → ∀ y x, (y, x) ∈ es → Sc σ.next x

theorem Rel.wf {σ : St} {φ : Place} {A : Nat → Prop} {h : Array Obj} (R : Rel σ φ A h) (T : Tot σ φ) : Wf σ where
  below := R.below
  gbelow := R.gbelow
  rows := fun b r hr i x hi hx => by
    obtain ⟨⟨c, s⟩, hp⟩ := T b _ (St.row_some hr).1 (fun y hy => by cases hy)
    obtain ⟨_, arr, _, _, _, h4⟩ := R.rows b r c s hr hp
    obtain ⟨v, _, h5⟩ := h4 i x hi hx
    exact VR.sc R.fresh x v h5
  maps := fun b k es hb y x hk => by
    obtain ⟨⟨c, s⟩, hp⟩ := T b _ hb (fun y hy => by cases hy)
    obtain ⟨_, o, _, h4⟩ := R.maps b k es c s hb hp
    exact OR.sc R.fresh h4 y x hk

/-- As it says of a well made part of the entries, with the places of its own. -/
theorem RelF.cut {m : Nat → Option Ent} {φ : Place} {A : Nat → Prop} {h : Array Obj} (F : RelF m φ A h) {σ : St} (hm : ∀ b e, σ.tr.get b = some e → m b = some e) (W : Wf σ) : Rel σ (cut φ σ.next) A h where
  below := W.below
  gbelow := W.gbelow
  fresh := fun b x hb => (cut_some.1 hb).1
  places := fun b c s hb => F.places b c s (cut_some.1 hb).2
  owned := F.owned
  rows := fun b r c s hr hp => by
    obtain ⟨h1, arr, h2, h3, h4, h5⟩ := F.rows b r c s (row_rowF hm hr) (cut_some.1 hp).2
    refine ⟨h1, arr, h2, h3, h4, fun i x hi hx => ?_⟩
    obtain ⟨v, h6, h7⟩ := h5 i x hi hx
    exact ⟨v, h6, VR.cut x v h7 (W.rows b r hr i x hi hx)⟩
  maps := fun b k es c s hb hp => by
    obtain ⟨h1, o, h2, h3⟩ := F.maps b k es c s (hm _ _ hb) (cut_some.1 hp).2
    exact ⟨h1, o, h2, OR.cut h3 (W.maps b k es hb)⟩
  apart := fun b b' r r' c s s' hne hr hr' hp hp' => F.apart b b' r r' c s s' hne (row_rowF hm hr) (row_rowF hm hr') (cut_some.1 hp).2 (cut_some.1 hp').2
  mapart := fun b b' k k' es es' c s s' hne hr hr' hp hp' => F.mapart b b' k k' es es' c s s' hne (hm _ _ hr) (hm _ _ hr') (cut_some.1 hp).2 (cut_some.1 hp').2
  tips := fun b b' r r' c s s' hr ht hr' hp hp' => F.tips b b' r r' c s s' (row_rowF hm hr) ht (row_rowF hm hr') (cut_some.1 hp).2 (cut_some.1 hp').2
  fams := fun g x hg => by
    cases hc : Ev.cut φ σ.next g with
    | none => rfl
    | some y => have := (cut_some.1 hc).2; rw [F.fams g x (hm _ _ hg)] at this; cases this
  onetip := fun b b' r r' c s s' hne hr hr' ht ht' hp hp' => F.onetip b b' r r' c s s' hne (row_rowF hm hr) (row_rowF hm hr') ht ht' (cut_some.1 hp).2 (cut_some.1 hp').2
end
end Go.Ev
