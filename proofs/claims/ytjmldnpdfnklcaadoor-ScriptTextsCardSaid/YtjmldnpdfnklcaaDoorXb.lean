/-
  Own work: an interpreter over named blocks, its soundness, and what the functions of this seat compute (part 2 of 8).
  Conditions: those of the statement alone.
-/
import Derived.Test.YtjmldnpdfnklcaaDoorXa
set_option linter.all false
set_option linter.unusedSectionVars false
set_option linter.unusedVariables false
set_option linter.unusedSimpArgs false
namespace Go.Proofs.YtjmldnpdfnklcaaDoor

structure Keeps (H H' : AHeap) : Prop where
  base : H'.base = H.base
  next : H.next ≤ H'.next
  get : ∀ r, r < H.base → r < H.next → H'.get r = H.get r
theorem Keeps.refl (H : AHeap) : Keeps H H := ⟨rfl, Nat.le_refl _, fun _ _ _ => rfl⟩
theorem Keeps.trans {H H' H'' : AHeap} (a : Keeps H H') (b : Keeps H' H'') : Keeps H H'' :=
  ⟨b.base.trans a.base, Nat.le_trans a.next b.next, fun r h1 h2 => (b.get r (by rw [a.base]; exact h1) (Nat.lt_of_lt_of_le h2 a.next)).trans (a.get r h1 h2)⟩
theorem Keeps.new (H : AHeap) (o : AObj) : Keeps H (H.new o) := ⟨rfl, by simp [AHeap.new], fun r _ h => by simp [AHeap.new]; intro e; omega⟩
theorem Keeps.put {H : AHeap} {r : Nat} (o : AObj) (h : H.base ≤ r) : Keeps H (H.put r o) := ⟨rfl, Nat.le_refl _, fun x h1 _ => by simp [AHeap.put]; intro e; omega⟩
def KeepsC (C : Callee) : Prop := ∀ f args H v H', C f args H = some (v, H') → Keeps H H'
/-- What makes new memory at most. -/
def Fresh (H H' : AHeap) : Prop := H'.base = H.base ∧ H.next ≤ H'.next ∧ ∀ r, r < H.next → H'.get r = H.get r
section
variable {P : Program} {C : Callee} {t : Tmps} {o : Oper} {H H' : AHeap} {v : AV}
theorem appendCells_keeps {e : TypeId} {m b n : Nat} {x : AV} {new : List AV} (h : appendCells e m b x n new H = some (v, H')) : Keeps H H' := by
  unfold appendCells at h
  split at h <;> first | (cases h; done) | skip
  split at h <;> first | (cases h; done) | skip
  · split at h
    · simp only [Option.some.injEq, Prod.mk.injEq] at h; rw [← h.2]; exact .refl _
    · split at h <;> first | (cases h; done) | skip
      simp only [Option.some.injEq, Prod.mk.injEq] at h; rw [← h.2]; exact .new _ _
  · split at h <;> first | (cases h; done) | skip
    split at h <;> first | (cases h; done) | skip
    split at h
    · simp only [Option.some.injEq, Prod.mk.injEq] at h; rw [← h.2]; exact .refl _
    · split at h
      · split at h <;> first | (cases h; done) | skip
        rename_i hc
        simp only [Option.some.injEq, Prod.mk.injEq] at h; rw [← h.2]; exact .put _ hc.1
      · split at h <;> first | (cases h; done) | skip
        split at h
        · simp only [Option.some.injEq, Prod.mk.injEq] at h; rw [← h.2]; exact .new _ _
        · split at h <;> first | (cases h; done) | skip
          rename_i hc
          simp only [Option.some.injEq, Prod.mk.injEq] at h; rw [← h.2]; exact .put _ hc
/-- What an operation that changes nothing answers hangs on the block that it looks at alone. -/
theorem float_form (hf : clsFloat o.op = true) : ∃ F : Option AObj → Option AV, (looks o.op = false → ∀ a b, F a = F b) ∧ ∀ H : AHeap, opA P C t o H = (F ((watchA t o.op).map H.get)).map fun v => (v, H) := by
  obtain ⟨dst, op, type, pos, after, guard⟩ := o
  have lift : ∀ {x : Option AV}, opA P C t ⟨dst, op, type, pos, after, guard⟩ = liftO x → ∃ F : Option AObj → Option AV, (looks op = false → ∀ a b, F a = F b) ∧ ∀ H : AHeap, opA P C t ⟨dst, op, type, pos, after, guard⟩ H = (F ((watchA t op).map H.get)).map fun v => (v, H) :=
    fun {x} he => ⟨fun _ => x, fun _ _ _ => rfl, fun H => by rw [he]; rfl⟩
  cases op with
  | move x => exact lift rfl
  | assign x => exact lift rfl
  | pick c a b => exact lift rfl
  | build ty ps => exact lift rfl
  | nilCheck x => exact lift rfl
  | binOp b ty x y ty' => exact lift rfl
  | unOp b ty x => exact lift rfl
  | makeFunc f a c => exact lift rfl
  | slice ty x lo hi mx => exact lift rfl
  | fieldAddr ty x i => exact lift rfl
  | field ty x i => exact lift rfl
  | index ty x i => exact lift rfl
  | extract x i => exact lift rfl
  | load ty x => exact ⟨_, (fun h => by cases h), fun H => rfl⟩
  | lookup ty x i ok => exact ⟨_, (fun h => by cases h), fun H => rfl⟩
  | indexAddr ty x i => exact ⟨_, (fun h => by cases h), fun H => rfl⟩
  | convert src dst x => exact ⟨_, (fun h => by cases h), fun H => rfl⟩
  | call c =>
    have hopA : ∀ H, opA P C t ⟨dst, .call c, type, pos, after, guard⟩ H = callOpA P C t c type H := fun _ => rfl
    simp only [clsFloat] at hf
    cases hcal : c.callee with
    | value f => simp [hcal] at hf
    | invoke r m => simp [hcal] at hf
    | builtin b =>
      have hb : ∀ H, callOpA P C t c type H = builtinA P b c.argTypes type (c.args.toList.map (evalA t)) H := fun H => by simp only [callOpA, hcal]
      have none' : (∀ H, builtinA P b c.argTypes type (c.args.toList.map (evalA t)) H = none) → ∃ F : Option AObj → Option AV, (looks (.call c) = false → ∀ a b, F a = F b) ∧ ∀ H : AHeap, opA P C t ⟨dst, .call c, type, pos, after, guard⟩ H = (F ((watchA t (.call c)).map H.get)).map fun v => (v, H) :=
        fun hn => ⟨fun _ => none, fun _ _ _ => rfl, fun H => by rw [hopA, hb, hn]; rfl⟩
      have lift' : ∀ x, (∀ H, builtinA P b c.argTypes type (c.args.toList.map (evalA t)) H = liftO x H) → ∃ F : Option AObj → Option AV, (looks (.call c) = false → ∀ a b, F a = F b) ∧ ∀ H : AHeap, opA P C t ⟨dst, .call c, type, pos, after, guard⟩ H = (F ((watchA t (.call c)).map H.get)).map fun v => (v, H) :=
        fun x hn => ⟨fun _ => x, fun _ _ _ => rfl, fun H => by rw [hopA, hb, hn]; rfl⟩
      cases b with
      | len =>
        cases hts : c.argTypes.toList with
        | nil => exact none' fun H => by simp only [builtinA, hts]
        | cons u us =>
          cases us with
          | cons u2 us => exact none' fun H => by simp only [builtinA, hts]
          | nil =>
            cases hcl : c.args.toList with
            | nil => exact none' fun H => by simp only [builtinA, hts, hcl, List.map_nil]
            | cons y ys =>
              cases ys with
              | cons z zs => exact none' fun H => by simp only [builtinA, hts, hcl, List.map_cons]
              | nil =>
                refine ⟨lenO P u (evalA t y), (fun h => by simp [looks, hcal] at h), fun H => ?_⟩
                rw [hopA, hb]
                simp only [builtinA, hts, hcl, List.map_cons, List.map_nil, lenA, lookB, watchA]
      | cap =>
        cases hts : c.argTypes.toList with
        | nil => exact none' fun H => by simp only [builtinA, hts]
        | cons u us =>
          cases us with
          | cons u2 us => exact none' fun H => by simp only [builtinA, hts]
          | nil =>
            cases hcl : c.args.toList with
            | nil => exact none' fun H => by simp only [builtinA, hts, hcl, List.map_nil]
            | cons y ys =>
              cases ys with
              | cons z zs => exact none' fun H => by simp only [builtinA, hts, hcl, List.map_cons]
              | nil => exact lift' (capA P u (evalA t y)) fun H => by simp only [builtinA, hts, hcl, List.map_cons, List.map_nil]
      | max => exact lift' (minMaxA P true c.argTypes type (c.args.toList.map (evalA t))) fun H => rfl
      | min => exact lift' (minMaxA P false c.argTypes type (c.args.toList.map (evalA t))) fun H => rfl
      | _ => simp [hcal] at hf
  | _ => cases hf
theorem float_op (hf : clsFloat o.op = true) (h : opA P C t o H = some (v, H')) : H' = H ∧ ∀ H2 : AHeap, (looks o.op = true → ∀ r, watchA t o.op = some r → H2.get r = H.get r) → opA P C t o H2 = some (v, H2) := by
  obtain ⟨F, h1, h2⟩ := float_form (P := P) (C := C) (t := t) hf
  rw [h2] at h
  cases hF : F ((watchA t o.op).map H.get) with
  | none => rw [hF] at h; cases h
  | some u =>
    rw [hF] at h
    simp only [Option.map_some, Option.some.injEq, Prod.mk.injEq] at h
    refine ⟨h.2.symm, fun H2 hw => ?_⟩
    rw [h2]
    have : F ((watchA t o.op).map H2.get) = F ((watchA t o.op).map H.get) := by
      cases hl : looks o.op with
      | false => exact h1 hl _ _
      | true =>
        cases hwa : watchA t o.op with
        | none => rfl
        | some r => simp only [Option.map_some, hw hl r hwa]
    rw [this, hF, h.1]; rfl
theorem callA_keeps (hC : KeepsC C) {f : AV} {args : List AV} (h : callA P C f args H = some (v, H')) : Keeps H H' := by
  unfold callA at h
  split at h <;> first | (cases h; done) | skip
  · split at h <;> first | (cases h; done) | skip
    exact hC _ _ _ _ _ h
  · split at h <;> first | (cases h; done) | skip
    exact hC _ _ _ _ _ h
theorem op_keeps (hC : KeepsC C) (h : opA P C t o H = some (v, H')) : Keeps H H' := by
  by_cases hf : clsFloat o.op = true
  · rw [(float_op hf h).1]; exact .refl _
  obtain ⟨dst, op, type, pos, after, guard⟩ := o
  cases op with
  | alloc e =>
    simp only [opA, allocA] at h
    split at h <;> first | (cases h; done) | skip
    split at h <;> first | (cases h; done) | skip
    simp only [Option.some.injEq, Prod.mk.injEq] at h
    rw [← h.2]; exact .new _ _
  | box e x =>
    simp only [opA, boxA] at h
    split at h <;> first | (cases h; done) | skip
    simp only [Option.some.injEq, Prod.mk.injEq] at h
    rw [← h.2]; exact .new _ _
  | buildSlice ty n ps =>
    simp only [opA, buildSliceA] at h
    split at h <;> first | (cases h; done) | skip
    split at h <;> first | (cases h; done) | skip
    split at h <;> first | (cases h; done) | skip
    split at h <;> first | (cases h; done) | skip
    split at h <;> first | (cases h; done) | skip
    simp only [Option.some.injEq, Prod.mk.injEq] at h
    rw [← h.2]; exact .new _ _
  | store ty x y =>
    simp only [opA, storeA] at h
    split at h <;> first | (cases h; done) | skip
    split at h <;> first | (cases h; done) | skip
    split at h <;> first | (cases h; done) | skip
    rename_i hc
    simp only [Option.some.injEq, Prod.mk.injEq] at h
    rw [← h.2]; exact .put _ hc.2.1
  | makeMap ty r =>
    cases r with
    | none =>
      simp only [opA, makeMapA] at h
      split at h <;> first | (cases h; done) | skip
      simp only [Option.some.injEq, Prod.mk.injEq] at h
      rw [← h.2]; exact .new _ _
    | some r => cases h
  | makeSlice ty l c =>
    simp only [opA, makeSliceA] at h
    split at h <;> first | (cases h; done) | skip
    split at h <;> first | (cases h; done) | skip
    split at h <;> first | (cases h; done) | skip
    simp only [Option.some.injEq, Prod.mk.injEq] at h
    rw [← h.2]; exact .new _ _
  | mapUpdate ty m k x =>
    simp only [opA, mapUpdateA] at h
    split at h <;> first | (cases h; done) | skip
    split at h <;> first | (cases h; done) | skip
    split at h <;> first | (cases h; done) | skip
    rename_i hc
    simp only [Option.some.injEq, Prod.mk.injEq] at h
    rw [← h.2]; exact .put _ hc.2.2
  | call c =>
    have hopA : opA P C t ⟨dst, .call c, type, pos, after, guard⟩ = callOpA P C t c type := rfl
    rw [hopA] at h
    unfold callOpA at h
    split at h <;> first | (cases h; done) | skip
    · exact callA_keeps hC h
    · unfold builtinA at h
      split at h <;> first | (cases h; done) | skip
      · unfold appendA at h
        split at h <;> first | (cases h; done) | skip
        split at h <;> first | (cases h; done) | skip
        split at h <;> first | (cases h; done) | skip
        split at h
        · split at h <;> first | (cases h; done) | skip
          split at h <;> first | (cases h; done) | skip
          exact appendCells_keeps h
        · split at h <;> first | (cases h; done) | skip
          exact appendCells_keeps h
      · rw [(lookB_eq h).2]; exact .refl _
      · rw [(liftO_eq h).2]; exact .refl _
      · unfold copyA at h
        split at h <;> first | (cases h; done) | skip
        split at h <;> first | (cases h; done) | skip
        simp only at h
        split at h <;> first | (cases h; done) | skip
        split at h
        · split at h <;> first | (cases h; done) | skip
          simp only [Option.some.injEq, Prod.mk.injEq] at h
          rw [← h.2]; exact .refl _
        · split at h <;> first | (cases h; done) | skip
          split at h <;> first | (cases h; done) | skip
          split at h <;> first | (cases h; done) | skip
          rename_i hc
          simp only [Option.some.injEq, Prod.mk.injEq] at h
          rw [← h.2]; exact .put _ hc.2.2.1
      · unfold clearA at h
        split at h <;> first | (cases h; done) | skip
        split at h <;> first | (cases h; done) | skip
        · split at h
          · simp only [Option.some.injEq, Prod.mk.injEq] at h
            rw [← h.2]; exact .refl _
          · split at h <;> first | (cases h; done) | skip
            split at h <;> first | (cases h; done) | skip
            rename_i hc
            simp only [Option.some.injEq, Prod.mk.injEq] at h
            rw [← h.2]; exact .put _ hc.2.2.1
        · simp only [Option.some.injEq, Prod.mk.injEq] at h
          rw [← h.2]; exact .refl _
      · unfold deleteA at h
        split at h <;> first | (cases h; done) | skip
        split at h <;> first | (cases h; done) | skip
        split at h <;> first | (cases h; done) | skip
        rename_i hc
        simp only [Option.some.injEq, Prod.mk.injEq] at h
        rw [← h.2]; exact .put _ hc.2.2
      · rw [(liftO_eq h).2]; exact .refl _
      · rw [(liftO_eq h).2]; exact .refl _
  | _ => first | (cases h; done) | exact absurd rfl hf
theorem Fresh.new (H : AHeap) (o : AObj) : Fresh H (H.new o) := ⟨rfl, by simp [AHeap.new], fun r h => by simp [AHeap.new]; intro e; omega⟩
theorem quiet_fresh (hq : clsQuiet o.op = true) (hc : isCall o.op = false) (h : opA P C t o H = some (v, H')) : Fresh H H' := by
  obtain ⟨dst, op, type, pos, after, guard⟩ := o
  cases op with
  | box e x =>
    simp only [opA, boxA] at h
    split at h <;> first | (cases h; done) | skip
    simp only [Option.some.injEq, Prod.mk.injEq] at h
    rw [← h.2]; exact .new _ _
  | buildSlice ty n ps =>
    simp only [opA, buildSliceA] at h
    split at h <;> first | (cases h; done) | skip
    split at h <;> first | (cases h; done) | skip
    split at h <;> first | (cases h; done) | skip
    split at h <;> first | (cases h; done) | skip
    split at h <;> first | (cases h; done) | skip
    simp only [Option.some.injEq, Prod.mk.injEq] at h
    rw [← h.2]; exact .new _ _
  | makeMap ty r =>
    cases r with
    | none =>
      simp only [opA, makeMapA] at h
      split at h <;> first | (cases h; done) | skip
      simp only [Option.some.injEq, Prod.mk.injEq] at h
      rw [← h.2]; exact .new _ _
    | some r => cases h
  | makeSlice ty l c =>
    simp only [opA, makeSliceA] at h
    split at h <;> first | (cases h; done) | skip
    split at h <;> first | (cases h; done) | skip
    split at h <;> first | (cases h; done) | skip
    simp only [Option.some.injEq, Prod.mk.injEq] at h
    rw [← h.2]; exact .new _ _
  | call c =>
    simp only [clsQuiet] at hq
    simp only [isCall] at hc
    cases hcal : c.callee <;> simp_all
  | _ => cases hq
theorem opG_fresh (hC : KeepsC C) (h : opG P C t o H = some (v, H')) : Fresh H H' ∧ ∃ H1, opA P C t o H.guard = some (v, H1) ∧ H' = { H1 with base := H.base } := by
  unfold opG at h
  split at h <;> first | (cases h; done) | skip
  rename_i u H1 h1
  simp only [Option.some.injEq, Prod.mk.injEq] at h
  obtain ⟨rfl, rfl⟩ := h
  have hk := op_keeps hC h1
  exact ⟨⟨rfl, hk.next, fun r hr => hk.get r hr hr⟩, H1, h1, rfl⟩
/-- New memory that hangs on nothing: what is made, wherever it is made. -/
theorem const_op (hc : clsConst o.op = true) (h : opA P C t o H = some (v, H')) :
    ∃ (ty : TypeId) (z : List AV) (mk : Nat → AV), v = mk H.next ∧ H' = H.new (.blk 0 ty z) ∧
      ∀ (ρ : Ren) (G : Nat → Nat) (w : World) (a : Act), ∃ (cs : Array Value) (cv : Value), (execOp a.eval o).run P w = .ok (.value cv) (w.alloc (.cells cs ty)) ∧ (RVs ρ G w z cs.toList ∧ ty < tagB) ∧
        ∀ (ρ' : Ren) (G' : Nat → Nat) (r : Nat), G' r = 0 → ρ' r = some (w.heap.size, 0) → RV ρ' G' (w.alloc (.cells cs ty)) (mk r) cv := by
  obtain ⟨dst, op, type, pos, after, guard⟩ := o
  cases op with
  | alloc e =>
    simp only [opA, allocA, zeroL] at h
    cases hz : zeroT P e with
    | none => simp [hz] at h
    | some z =>
      simp only [hz, Option.map_some] at h
      split at h <;> first | (cases h; done) | skip
      simp only [Option.some.injEq, Prod.mk.injEq] at h
      refine ⟨e, _, fun r => .ref r 0 0, h.1.symm, h.2.symm, fun ρ G w a => ⟨z.cells, .pointer (some ⟨w.heap.size, 0, none⟩), ?_, ⟨RVs_scalars _, zeroT_lt hz⟩, fun ρ' G' r hg hr => ?_⟩⟩
      · simp [execOp, Instr.alloc, run_zeroValue hz, newVar, newRow]
      · simp only [RV]
        exact ⟨_, rfl, by omega, fun _ => ⟨_, 0, hr, by simp⟩⟩
  | buildSlice ty n ps =>
    simp only [clsConst] at hc
    simp only [opA] at h
    have hparts : ∀ (a : Act) (p : Nat × Operand), p ∈ ps.toList → ∃ u, p.2 = .const u := by
      intro a p hp
      have := Array.all_eq_true'.1 hc p (by simpa using hp)
      cases hp2 : p.2 with
      | const u => exact ⟨u, rfl⟩
      | _ => rw [hp2] at this; cases this
    have hev : ∀ (ρ : Ren) (G : Nat → Nat) (w : World) (a : Act), ∀ x ∈ (ps.toList.map (·.2)).toArray, RV ρ G w (evalA t x) (a.eval x) := by
      intro ρ G w a x hx
      simp only [List.mem_toArray, List.mem_map] at hx
      obtain ⟨p, hp, rfl⟩ := hx
      obtain ⟨u, hu⟩ := hparts a p hp
      rw [hu]
      simp only [evalA, Act.eval, RV]
    unfold buildSliceA at h
    cases he : elemT P ty with
    | none => simp [he] at h
    | some e =>
      simp only [he] at h
      cases hs : szT P e with
      | none => simp [hs] at h
      | some m =>
        cases hz : zeroL P e with
        | none => simp [hs, hz] at h
        | some z =>
          simp only [hs, hz] at h
          obtain ⟨zv, hzv, rfl⟩ := zeroL_eq hz
          split at h <;> first | (cases h; done) | skip
          rename_i hcond
          obtain ⟨hzl, hbig⟩ := hcond
          simp at hzl
          split at h <;> first | (cases h; done) | skip
          rename_i cells hf
          split at h <;> first | (cases h; done) | skip
          simp only [Option.some.injEq, Prod.mk.injEq] at h
          refine ⟨e, cells, fun r => .sl r 0 0 m n n true, h.1.symm, h.2.symm, fun ρ G w a => ?_⟩
          obtain ⟨hi, hp⟩ := parts_ok (ρ := ρ) (w := w) (G := G) (t := t) (a := a) ps (hev ρ G w a)
          obtain ⟨zc, hzr, hz0⟩ : ∃ zc : Array Value, RVs ρ G w (zerosL (zv.cells.toList.map .s) n) ((Array.range (n * m)).map (zc[· % zc.size]!)).toList ∧ ((n * m = 0 ∧ zc = #[]) ∨ (¬ n * m = 0 ∧ zc = zv.cells)) := by
            by_cases h0 : n * m = 0
            · refine ⟨#[], ?_, .inl ⟨h0, rfl⟩⟩
              rw [h0]
              have : zerosL (zv.cells.toList.map .s) n = [] := List.eq_nil_of_length_eq_zero (by rw [zerosL_length]; simp [hzl, h0])
              rw [this]; simp [RVs]
            · refine ⟨zv.cells, ?_, .inr ⟨h0, rfl⟩⟩
              have := RVs_zeros (ρ := ρ) (G := G) (w := w) zv n
              rw [hzl] at this ⊢
              exact this
          obtain ⟨cs, h1, h2⟩ := fill_ok _ _ _ _ cells hi hp hzr hf
          have hfl : cs.size = n * m := by
            have hsz : ∀ (place : Nat → Option (Nat × Nat)) (l : List (Nat × Value)) (a b : Array Value), Instr.fill place a l = some b → b.size = a.size := by
              intro place l
              induction l with
              | nil => intro a b h; simp [Instr.fill] at h; rw [h]
              | cons p l ih =>
                intro a b h
                obtain ⟨i, x⟩ := p
                simp only [Instr.fill] at h
                split at h
                · cases h
                · split at h
                  · cases h
                  · rw [ih _ _ h, ← Array.foldl_toList, Array.toList_zipIdx, foldl_sets, setMany_size]
            rw [hsz _ _ _ _ h1]; simp
          refine ⟨cs, .slice (some ⟨w.heap.size, 0, none⟩) n n, ?_, ⟨h2, zeroT_lt hzv⟩, fun ρ' G' r hg hr => ?_⟩
          · have hnb : ¬ n * m > 2 ^ 24 := by omega
            simp only [execOp, Instr.buildSlice, Sem.run_bind, run_underlying (elemT_eq he), Result.andThen_ok, run_sizeOf hs, hnb, if_false]
            rcases hz0 with ⟨h0, rfl⟩ | ⟨h0, rfl⟩
            · rw [if_pos h0]
              simp only [Result.andThen_ok, h1, Sem.run_bind, newRow, run_newObj, Sem.run_pure]
              rfl
            · rw [if_neg h0]
              simp only [Result.andThen_ok, h1, Sem.run_bind, newRow, run_newObj, Sem.run_pure, run_zeroValue hzv]
              rfl
          · simp only [RV]
            refine ⟨w.heap.size, 0, n, rfl, Nat.le_refl _, Nat.le_refl _, fun _ => rfl, by omega, fun _ => ⟨0, e, cs.size, hr, fun _ => rfl, ?_, by rw [hfl]; omega⟩⟩
            rw [shape?_eq, alloc_heap]; rfl
  | _ => cases hc
end

end Go.Proofs.YtjmldnpdfnklcaaDoor

namespace Go.Proofs.YtjmldnpdfnklcaaDoor

theorem before_listed {ops : List Oper} {L : Nat → Prop} (hdown : ∀ j o, ops[j]? = some o → L j → ∀ e ∈ o.after, Region.binds .any e = true → L e.on) :
    ∀ i j, isBef ops i j = true → L j → L i := by
  have key : ∀ (l pre : List Oper) (acc : Array Nat), pre.length = acc.size → (∀ i j, (acc.getD j 0).testBit i = true → (pre ++ l = ops) → L j → L i) → pre ++ l = ops →
      ∀ i j, ((l.foldl (init := acc) fun acc o => acc.push (o.after.foldl (fun s e => if Region.binds .any e then s ||| 2 ^ e.on ||| acc.getD e.on 0 else s) 0)).getD j 0).testBit i = true → L j → L i := by
    intro l
    induction l with
    | nil =>
      intro pre acc _ h he i j hb hl
      exact h i j hb he hl
    | cons o l ih =>
      intro pre acc hsz h he i j hb hl
      simp only [List.foldl_cons] at hb
      refine ih (pre ++ [o]) _ (by simp [hsz]) ?_ (by simpa using he) i j hb hl
      intro i j hb he' hl
      by_cases hj : j < acc.size
      · refine h i j ?_ he hl
        simpa [Array.getD, hj, Nat.lt_succ_of_lt hj, Array.getElem_push_lt hj] using hb
      · by_cases hj' : j = acc.size
        · subst hj'
          have hoj : ops[acc.size]? = some o := by rw [← he, ← hsz]; simp
          have hs : ((acc.push (o.after.foldl (fun s e => if Region.binds .any e then s ||| 2 ^ e.on ||| acc.getD e.on 0 else s) 0)).getD acc.size 0) = o.after.foldl (fun s e => if Region.binds .any e then s ||| 2 ^ e.on ||| acc.getD e.on 0 else s) 0 := by simp
          rw [hs] at hb
          have inner : ∀ (es : List Edge) (s : Nat), (∀ e ∈ es, e ∈ o.after) → (s.testBit i = true → L i) → (es.foldl (fun s e => if Region.binds .any e then s ||| 2 ^ e.on ||| acc.getD e.on 0 else s) s).testBit i = true → L i := by
            intro es
            induction es with
            | nil => intro s _ hs hb; exact hs hb
            | cons e es ih2 =>
              intro s hin hs hb
              simp only [List.foldl_cons] at hb
              refine ih2 _ (fun e' h' => hin e' (by simp [h'])) ?_ hb
              intro hb2
              split at hb2
              · rename_i hbi
                simp only [Nat.testBit_or, Bool.or_eq_true, Nat.testBit_two_pow] at hb2
                have hle := hdown _ o hoj hl e (hin e (by simp)) hbi
                rcases hb2 with (hb2 | hb2) | hb2
                · exact hs hb2
                · simp at hb2; rw [← hb2]; exact hle
                · exact h i e.on hb2 he hle
              · exact hs hb2
          refine inner o.after.toList 0 (fun e he => by simpa using he) (fun hz => by simp at hz) ?_
          rw [Array.foldl_toList]
          exact hb
        · have : (acc.push (o.after.foldl (fun s e => if Region.binds .any e then s ||| 2 ^ e.on ||| acc.getD e.on 0 else s) 0)).getD j 0 = 0 := by
            simp [Array.getD, show ¬ j < acc.size + 1 by omega]
          rw [this] at hb; simp at hb
  intro i j hb hl
  refine key ops [] #[] rfl (fun i j hb => by simp at hb) rfl i j ?_ hl
  unfold isBef Region.before at hb
  rw [← Array.foldl_toList] at hb
  exact hb
theorem allLt_spec {n : Nat} {f : Nat → Bool} (h : allLt n f = true) {i : Nat} (hi : i < n) : f i = true := by
  unfold allLt at h
  exact List.all_eq_true.1 h i (List.mem_range.2 hi)
structure DrawFacts (ops : List Oper) : Prop where
  edges : ∀ j o, ops[j]? = some o → ∀ e ∈ o.after, Region.binds .any e = true → e.on < ops.length ∧ ahead ops e.on j = true
  dsts : ∀ (i j : Nat) (oi oj : Oper) (d : Tmp), ops[i]? = some oi → ops[j]? = some oj → oi.dst = some d → oj.dst = some d → i = j
  uses : ∀ (i j : Nat) (oi oj : Oper) (d : Tmp), i ≠ j → ops[i]? = some oi → ops[j]? = some oj → oi.dst = some d → d ∈ oj.looksAt ops.toArray → (isBef ops i j = true ∧ ahead ops i j = true) ∨ (isBef ops j i = true ∧ ahead ops j i = true)
  chain : ∀ i j, i < j → j < ops.length → chn ops i = true → chn ops j = true → isBef ops i j = true
  const : ∀ j o, ops[j]? = some o → cst ops j = true → o.guard = none ∧ o.dst.isSome = true
  loose : ∀ j e, j < ops.length → e < ops.length → cst ops j = true → chn ops e = true → isBef ops j e = false → clsQuiet (getOp ops e) = true ∧ isBef ops e j = false
theorem lt_of_getElem? {α : Type} {l : List α} {i : Nat} {x : α} (h : l[i]? = some x) : i < l.length := (List.getElem?_eq_some_iff.1 h).1
theorem getOp_eq {ops : List Oper} {j : Nat} {o : Oper} (h : ops[j]? = some o) : getOp ops j = o.op := by simp [getOp, h]
theorem getDst_eq {ops : List Oper} {j : Nat} {o : Oper} (h : ops[j]? = some o) : getDst ops j = o.dst := by simp [getDst, h]
theorem drawOk_facts {ops : List Oper} (h : drawOk ops = true) : DrawFacts ops := by
  unfold drawOk at h
  simp only [Bool.and_eq_true] at h
  obtain ⟨⟨⟨⟨⟨h1, h2⟩, h3⟩, h4⟩, h5⟩, h6⟩ := h
  refine ⟨fun j o ho e he hb => ?_, fun i j oi oj d hi hj di dj => ?_, fun i j oi oj d hne hi hj di hd => ?_, fun i j hij hj ci cj => ?_, fun j o ho hc => ?_, fun j e hj he hc hch hb => ?_⟩
  · have := allLt_spec h1 (lt_of_getElem? ho)
    simp only [ho, Option.map_some, Option.getD_some] at this
    have := Array.all_eq_true'.1 this e he
    simpa [hb] using this
  · have aux : ∀ (i j : Nat) (oi oj : Oper), ops[i]? = some oi → ops[j]? = some oj → oi.dst = some d → oj.dst = some d → ¬ i < j := by
      intro i j oi oj hi hj di dj hlt
      have := allLt_spec (allLt_spec h2 (lt_of_getElem? hi)) (lt_of_getElem? hj)
      rw [getDst_eq hi, getDst_eq hj, di, dj] at this
      simp [hlt] at this
    have a1 := aux i j oi oj hi hj di dj
    have a2 := aux j i oj oi hj hi dj di
    omega
  · have := allLt_spec (allLt_spec h3 (lt_of_getElem? hi)) (lt_of_getElem? hj)
    rw [getDst_eq hi, di, hj] at this
    simp only [Bool.or_eq_true, beq_iff_eq, Bool.not_eq_true', Bool.and_eq_true] at this
    rcases this with h | (h | h) | h
    · exact absurd h hne
    · have hc : (oj.looksAt ops.toArray).contains d = true := List.contains_iff_mem.2 hd
      rw [hc] at h; cases h
    · exact .inl h
    · exact .inr h
  · have := allLt_spec (allLt_spec h4 (Nat.lt_trans hij hj)) hj
    simpa [ci, cj, hij] using this
  · have := allLt_spec h5 (lt_of_getElem? ho)
    simp only [hc, Bool.not_true, Bool.false_or, ho, Option.map_some, Option.getD_some, Bool.and_eq_true] at this
    exact ⟨Option.isNone_iff_eq_none.1 this.1, this.2⟩
  · have := allLt_spec (allLt_spec h6 hj) he
    simp only [hc, hch, hb, Bool.not_false, Bool.and_self, Bool.not_true, Bool.false_or, Bool.and_eq_true, Bool.not_eq_true'] at this
    exact this
theorem drawRun_append {P : Program} {C : Callee} {ops : List Oper} : ∀ (l m : List Nat) (t : Tmps) (H : AHeap),
    drawRun P C ops (l ++ m) t H = (drawRun P C ops l t H).bind fun s => drawRun P C ops m s.1 s.2
  | [], m, t, H => rfl
  | i :: l, m, t, H => by
    simp only [List.cons_append, drawRun]
    cases ops[i]? with
    | none => rfl
    | some o =>
      simp only
      cases stepA P C ops (loose ops i && isCall o.op) o t H with
      | none => rfl
      | some r => exact drawRun_append l m _ _
theorem filter_range_succ (f : Nat → Bool) (p : Nat) : (List.range (p + 1)).filter f = (List.range p).filter f ++ (if f p then [p] else []) := by
  rw [List.range_succ, List.filter_append]
  congr 1
  simp only [List.filter_cons, List.filter_nil]
theorem stAt_succ {P : Program} {C : Callee} {ops : List Oper} {p : Nat} {t : Tmps} {H : AHeap} : stAt P C ops (p + 1) t H =
    (stAt P C ops p t H).bind fun s => if cst ops p then some s else drawRun P C ops [p] s.1 s.2 := by
  unfold stAt
  rw [filter_range_succ, drawRun_append]
  congr 1
  funext s
  cases cst ops p <;> rfl
/-- All states are there, if the last one is. -/
theorem stAt_some {P : Program} {C : Callee} {ops : List Oper} {t : Tmps} {H : AHeap} {n : Nat} {s : Tmps × AHeap} (h : stAt P C ops n t H = some s) : ∀ k p, p + k = n → ∃ s', stAt P C ops p t H = some s' := by
  intro k
  induction k generalizing n s with
  | zero => intro p hp; simp at hp; subst hp; exact ⟨s, h⟩
  | succ k ih =>
    intro p hp
    cases n with
    | zero => omega
    | succ n =>
      rw [stAt_succ] at h
      cases hn : stAt P C ops n t H with
      | none => rw [hn] at h; cases h
      | some s' => exact ih hn p (by omega)
/-- What a run of places is: each state, each value. -/
structure DrawStates (P : Program) (C : Callee) (ops : List Oper) (t0 : Tmps) (H0 : AHeap) (T : Nat → Tmps) (Hp : Nat → AHeap) (val : Nat → AV) : Prop where
  zero : T 0 = t0 ∧ Hp 0 = H0
  at_ : ∀ p, p ≤ ops.length → stAt P C ops p t0 H0 = some (T p, Hp p)
  skip : ∀ p, p < ops.length → cst ops p = true → T (p + 1) = T p ∧ Hp (p + 1) = Hp p
  step : ∀ p o, ops[p]? = some o → cst ops p = false → stepA P C ops (loose ops p && isCall o.op) o (T p) (Hp p) = some (val p, Hp (p + 1)) ∧ T (p + 1) = putA (T p) o.dst (val p)
theorem drawStates {P : Program} {C : Callee} {ops : List Oper} {t0 : Tmps} {H0 : AHeap} {s : Tmps × AHeap} (h : drawRun P C ops (restIdx ops) t0 H0 = some s) (vc : Nat → AV) :
    ∃ T Hp val, DrawStates P C ops t0 H0 T Hp val ∧ (T ops.length, Hp ops.length) = s ∧ ∀ p, cst ops p = true → val p = vc p := by
  have hn : stAt P C ops ops.length t0 H0 = some s := h
  let S : Nat → Tmps × AHeap := fun p => (stAt P C ops p t0 H0).getD (t0, H0)
  have hS : ∀ p, p ≤ ops.length → stAt P C ops p t0 H0 = some (S p) := fun p hp => by
    obtain ⟨s', hs'⟩ := stAt_some hn (ops.length - p) p (by omega)
    simp only [S, hs', Option.getD_some]
  have hstep : ∀ p o, ops[p]? = some o → cst ops p = false → ∃ v, stepA P C ops (loose ops p && isCall o.op) o (S p).1 (S p).2 = some (v, (S (p + 1)).2) ∧ (S (p + 1)).1 = putA (S p).1 o.dst v := by
    intro p o ho hc
    have hp := lt_of_getElem? ho
    have h1 := hS (p + 1) hp
    rw [stAt_succ, hS p (by omega)] at h1
    simp only [Option.bind_some, hc, Bool.false_eq_true, if_false, drawRun, ho] at h1
    cases hst : stepA P C ops (loose ops p && isCall o.op) o (S p).1 (S p).2 with
    | none => rw [hst] at h1; cases h1
    | some r =>
      rw [hst] at h1
      simp only [Option.some.injEq] at h1
      exact ⟨r.1, by rw [← h1], by rw [← h1]⟩
  refine ⟨fun p => (S p).1, fun p => (S p).2, fun p => if cst ops p then vc p else match ops[p]? with
    | some o => (match stepA P C ops (loose ops p && isCall o.op) o (S p).1 (S p).2 with | some r => r.1 | none => undefA)
    | none => undefA, ⟨⟨rfl, rfl⟩, hS, fun p hp hc => ?_, fun p o ho hc => ?_⟩, ?_, fun p hc => by simp [hc]⟩
  · have h1 := hS (p + 1) hp
    rw [stAt_succ, hS p (by omega)] at h1
    simp only [Option.bind_some, hc, if_true, Option.some.injEq] at h1
    rw [← h1]; exact ⟨rfl, rfl⟩
  · obtain ⟨v, h1, h2⟩ := hstep p o ho hc
    simp only [hc, Bool.false_eq_true, if_false, ho, h1, h2, and_self]
  · have := hS ops.length (Nat.le_refl _)
    rw [hn] at this
    cases this; rfl
structure ConstFact (P : Program) (o : Oper) (v : AV) (r : Nat) (ob : AObj) : Prop where
  ex : ∃ (ty : TypeId) (z : List AV) (mk : Nat → AV), v = mk r ∧ ob = .blk 0 ty z ∧
      ∀ (ρ : Ren) (G : Nat → Nat) (w : World) (a : Act), ∃ (cs : Array Value) (cv : Value), (execOp a.eval o).run P w = .ok (.value cv) (w.alloc (.cells cs ty)) ∧ (RVs ρ G w z cs.toList ∧ ty < tagB) ∧
        ∀ (ρ' : Ren) (G' : Nat → Nat) (r : Nat), G' r = 0 → ρ' r = some (w.heap.size, 0) → RV ρ' G' (w.alloc (.cells cs ty)) (mk r) cv
theorem putA_length (t : Tmps) (d : Option Tmp) (v : AV) : (putA t d v).length = t.length := by cases d <;> simp [putA]
theorem putA_get (t : Tmps) (d : Option Tmp) (v : AV) (i : Nat) : (putA t d v)[i]? = if d = some i ∧ i < t.length then some v else t[i]? := by
  cases d with
  | none => simp [putA]
  | some d =>
    simp only [putA, List.getElem?_set, Option.some.injEq]
    by_cases h : d = i
    · subst h
      by_cases hl : d < t.length
      · simp [hl]
      · simp [hl]
    · simp [h]
theorem constRun_spec {P : Program} {C : Callee} {ops : List Oper} : ∀ (is : List Nat) (t : Tmps) (H : AHeap) (t0 : Tmps) (H0 : AHeap), is.Nodup → (∀ j ∈ is, cst ops j = true) →
    (∀ i ∈ is, ∀ j ∈ is, ∀ (oi oj : Oper) (d : Tmp), ops[i]? = some oi → ops[j]? = some oj → oi.dst = some d → oj.dst = some d → i = j) → constRun P C ops is t H = some (t0, H0) →
    Fresh H H0 ∧ (∀ r, H.next ≤ r → H.gen r = 0 → H0.gen r = 0) ∧ t0.length = t.length ∧ ∃ (nm : Nat → Nat) (vl : Nat → AV), (∀ j ∈ is, ∃ o, ops[j]? = some o ∧ H.next ≤ nm j ∧ nm j < H0.next ∧ ConstFact P o (vl j) (nm j) (H0.get (nm j)) ∧ ∀ d, o.dst = some d → d < t.length → t0[d]? = some (vl j)) ∧
      (∀ i ∈ is, ∀ j ∈ is, nm i = nm j → i = j) ∧ ∀ d, (∀ j ∈ is, ∀ o, ops[j]? = some o → o.dst ≠ some d) → t0[d]? = t[d]?
  | [], t, H, t0, H0, _, _, _, h => by
    simp only [constRun, Option.some.injEq, Prod.mk.injEq] at h
    obtain ⟨rfl, rfl⟩ := h
    exact ⟨⟨rfl, Nat.le_refl _, fun _ _ => rfl⟩, fun _ _ h => h, rfl, fun _ => 0, fun _ => undefA, by simp, by simp, fun _ _ => rfl⟩
  | i :: is, t, H, t0, H0, hnd, hcst, hdst, h => by
    simp only [constRun] at h
    cases ho : ops[i]? with
    | none => rw [ho] at h; cases h
    | some o =>
      rw [ho] at h
      simp only at h
      cases hop : opA P C t o H with
      | none => rw [hop] at h; cases h
      | some r =>
        obtain ⟨v, H1⟩ := r
        rw [hop] at h
        simp only at h
        have hco : clsConst o.op = true := by have := hcst i (by simp); simpa [cst, getOp_eq ho] using this
        obtain ⟨ty, z, mk, rfl, rfl, hrun⟩ := const_op hco hop
        obtain ⟨hf, hg, hlen, nm, vl, h1, h2, h3⟩ := constRun_spec is _ _ t0 H0 (List.nodup_cons.1 hnd).2 (fun j hj => hcst j (by simp [hj])) (fun a ha b hb => hdst a (by simp [ha]) b (by simp [hb])) h
        have hni : i ∉ is := (List.nodup_cons.1 hnd).1
        have hget : H0.get H.next = .blk 0 ty z := by
          rw [hf.2.2 H.next (by simp [AHeap.new])]
          simp [AHeap.new]
        refine ⟨⟨hf.1, Nat.le_trans (by simp [AHeap.new]) hf.2.1, fun r hr => ?_⟩, fun r hr hgr => ?_, by rw [hlen, putA_length], fun j => if j = i then H.next else nm j, fun j => if j = i then mk H.next else vl j, fun j hj => ?_, fun a ha b hb hab => ?_, fun d hd => ?_⟩
        · rw [hf.2.2 r (by simp [AHeap.new]; omega)]
          simp [AHeap.new, show r ≠ H.next by omega]
        · rcases Nat.lt_or_ge H.next r with hlt | hge
          · refine hg r (by simp [AHeap.new]; omega) ?_
            rw [new_gen, if_neg (by omega)]; exact hgr
          · have : r = H.next := by omega
            subst this
            simp [AHeap.gen, hget, AObj.gen]
        · by_cases hji : j = i
          · subst hji
            simp only [if_true]
            refine ⟨o, ho, Nat.le_refl _, Nat.lt_of_lt_of_le (by simp [AHeap.new]) hf.2.1, ⟨ty, z, mk, rfl, hget, hrun⟩, fun d hd hlt => ?_⟩
            rw [h3 d (fun k hk ok hok hkd => hni (by
              have := hdst j (by simp) k (by simp [hk]) o ok d ho hok hd hkd
              rw [this]; exact hk)), putA_get, if_pos ⟨hd, hlt⟩]
          · simp only [if_neg hji]
            obtain ⟨oj, hoj, q1, q2, q3, q4⟩ := h1 j (by
              rcases List.mem_cons.1 hj with e | e
              · exact absurd e hji
              · exact e)
            refine ⟨oj, hoj, Nat.le_trans (by simp [AHeap.new]) q1, q2, q3, fun d hd hlt => q4 d hd (by rw [putA_length]; exact hlt)⟩
        · by_cases ha' : a = i <;> by_cases hb' : b = i
          · rw [ha', hb']
          · simp only [ha', if_true, if_neg hb'] at hab
            obtain ⟨_, _, q1, _⟩ := h1 b (by exact (List.mem_cons.1 hb).resolve_left hb')
            simp [AHeap.new] at q1
            omega
          · simp only [hb', if_true, if_neg ha'] at hab
            obtain ⟨_, _, q1, _⟩ := h1 a (by exact (List.mem_cons.1 ha).resolve_left ha')
            simp [AHeap.new] at q1
            omega
          · simp only [if_neg ha', if_neg hb'] at hab
            exact h2 a (by exact (List.mem_cons.1 ha).resolve_left ha') b (by exact (List.mem_cons.1 hb).resolve_left hb') hab
        · rw [h3 d (fun j hj => hd j (by simp [hj])), putA_get, if_neg (fun hc => hd i (by simp) o ho hc.1)]

end Go.Proofs.YtjmldnpdfnklcaaDoor

namespace Go.Proofs.YtjmldnpdfnklcaaDoor

/-- The temporaries that D names stand for those of the model. -/
structure TOn (ρ : Ren) (G : Nat → Nat) (w : World) (D : Tmp → Prop) (t : Tmps) (a : Act) : Prop where
  size : a.tmps.size = t.length
  get : ∀ d, D d → d < t.length → RV ρ G w (t.getD d undefA) (a.tmps.getD d undef)
section
variable {P : Program} {C : Callee} {ops : List Oper} {H H' : AHeap} {t : Tmps} {a : Act} {w : World} {ρ : Ren} {G : Nat → Nat} {o : Oper} {v : AV}
theorem TOn.any {D : Tmp → Prop} (h : TOn ρ G w D t a) (d : Tmp) (hd : D d) : RV ρ G w (t.getD d undefA) (a.tmps.getD d undef) := by
  by_cases hl : d < t.length
  · exact h.get d hd hl
  · have h1 : t.getD d undefA = undefA := by simp [List.getD, List.getElem?_eq_none (Nat.not_lt.1 hl)]
    have h2 : a.tmps.getD d undef = undef := by
      have : ¬ d < a.tmps.size := by rw [h.size]; exact hl
      simp [Array.getD, this]
    rw [h1, h2]; exact RV_undef
theorem TOn.eval (h : TOn ρ G w (· ∈ o.looksAt ops.toArray) t a) : ∀ x ∈ o.op.operands, RV ρ G w (evalA t x) (a.eval x) := by
  intro x hx
  cases x with
  | tmp d =>
    exact h.any d (List.mem_append_left _ (List.mem_filterMap.2 ⟨.tmp d, by simpa using hx, rfl⟩))
  | const v => simp [evalA, Act.eval, RV]
  | global g => simp [evalA, Act.eval, RV]
  | func f => simp [evalA, Act.eval, RV, RVs]
theorem TOn.wanted {b : Bool} (h : TOn ρ G w (· ∈ o.looksAt ops.toArray) t a) (hw : wantedA ops t o = some b) : Region.wanted o (yielded ops.toArray a.tmps) = b := by
  unfold wantedA at hw
  unfold Region.wanted
  cases hg : o.guard with
  | none => rw [hg] at hw; simpa using hw
  | some gw =>
    obtain ⟨j, want⟩ := gw
    rw [hg] at hw
    simp only at hw
    cases hj : ops[j]? with
    | none => rw [hj] at hw; cases hw
    | some p =>
      rw [hj] at hw
      simp only at hw
      cases hd : p.dst with
      | none => rw [hd] at hw; cases hw
      | some d =>
        rw [hd] at hw
        simp only at hw
        have hmem : d ∈ o.looksAt ops.toArray := by
          unfold Oper.looksAt
          refine List.mem_append_right _ ?_
          simp [hg, hj, hd]
        cases htd : t[d]? with
        | none => rw [htd] at hw; cases hw
        | some x =>
          have hlt : d < t.length := (List.getElem?_eq_some_iff.1 htd).1
          have hrv := h.get d hmem hlt
          have hx : t.getD d undefA = x := by simp [List.getD, htd]
          have hlt' : d < a.tmps.size := by rw [h.size]; exact hlt
          have hav : a.tmps[d]? = some (a.tmps.getD d undef) := by simp [Array.getD, hlt']
          rw [hx] at hrv
          rw [htd] at hw
          have hy : yielded ops.toArray a.tmps j = (match a.tmps.getD d undef with | .bool b => some b | _ => none) := by
            unfold yielded
            have : (ops.toArray[j]?).bind (·.dst) = some d := by simp [hj, hd]
            rw [this, Option.bind_some, hav]
            cases a.tmps.getD d undef <;> rfl
          simp only
          split at hw <;> first | (cases hw; done) | skip
          · rename_i hbx
            cases hbx
            simp only [RV] at hrv
            rw [hy, hrv]
            simp only [Option.some.injEq] at hw
            rw [← hw]
            rename_i b0
            cases b0 <;> cases want <;> rfl
          · rename_i hbx
            cases hbx
            simp only [RV, RVs] at hrv
            obtain ⟨cs, hcs, _⟩ := hrv
            rw [hy, hcs]
            simpa using hw
theorem TOn.put {D : Tmp → Prop} (h : TOn ρ G w D t a) (d : Option Tmp) {cv : Value} (hv : RV ρ G w v cv) : TOn ρ G w D (putA t d v) (a.put d cv) := by
  refine ⟨?_, fun x hx hl => ?_⟩
  · rw [putA_length, ← h.size]; cases d <;> simp [Act.put]
  · rw [putA_length] at hl
    have hl' : x < a.tmps.size := by rw [h.size]; exact hl
    cases d with
    | none => exact h.get x hx hl
    | some d =>
      by_cases e : d = x
      · subst e
        have h1 : (putA t (some d) v).getD d undefA = v := by simp [putA, List.getD, hl]
        have h2 : (a.put (some d) cv).tmps.getD d undef = cv := by simp [Act.put, Array.getD, hl']
        rw [h1, h2]; exact hv
      · have h1 : (putA t (some d) v).getD x undefA = t.getD x undefA := by simp [putA, List.getD, e]
        have h2 : (a.put (some d) cv).tmps.getD x undef = a.tmps.getD x undef := by
          simp [Act.put, Array.getElem?_setIfInBounds_ne e]
        rw [h1, h2]; exact h.get x hx hl
theorem TOn.keep {ρ' : Ren} {w' : World} {D : Tmp → Prop} (h : TOn ρ H.gen w D t a) (E : Ext ρ H w ρ' H' w') : TOn ρ' H'.gen w' D t a :=
  ⟨h.size, fun d hd hl => RV.mono E.toMono _ _ (h.get d hd hl)⟩
theorem TOn.sub {D D' : Tmp → Prop} (h : TOn ρ G w D t a) (hs : ∀ d, D' d → D d) : TOn ρ G w D' t a := ⟨h.size, fun d hd => h.get d (hs d hd)⟩
theorem step_wp (hC : Sound P C) {lo : Bool} (h : stepA P C ops lo o t H = some (v, H')) (R : Rel ρ H w) (T : TOn ρ H.gen w (· ∈ o.looksAt ops.toArray) t a) {i : Nat} (ho : ops[i]? = some o)
    {K : Act → World → Prop} {Q : Exit → Act → World → Prop} (hK : ∀ cv ρ' w', Rel ρ' H' w' → RV ρ' H'.gen w' v cv → Ext ρ H w ρ' H' w' → K (a.put o.dst cv) w') : wpOp P ops.toArray Q i K a w := by
  unfold wpOp
  have hoa : ops.toArray[i]? = some o := by simpa using ho
  simp only [hoa]
  unfold stepA at h
  split at h <;> first | (cases h; done) | skip
  · rename_i hw
    rw [T.wanted hw, if_pos rfl]
    left
    split at h
    · unfold opG at h
      split at h <;> first | (cases h; done) | skip
      rename_i u H1 h1
      simp only [Option.some.injEq, Prod.mk.injEq] at h
      obtain ⟨rfl, rfl⟩ := h
      exact op_sound hC h1 (H := H.guard) ⟨R.out, R.obj, R.inj, R.gl⟩ T.eval fun cv ρ' w' r e x =>
        hK cv ρ' w' ⟨r.out, r.obj, r.inj, r.gl⟩ e ⟨x.next, x.mono, x.same, x.kept, x.range, x.size, x.frame, x.shape, x.os, x.tape, x.output⟩
    · exact op_sound hC h R T.eval hK
  · rename_i hw
    rw [T.wanted hw]
    simp only [Option.some.injEq, Prod.mk.injEq] at h
    obtain ⟨rfl, rfl⟩ := h
    simp only [Bool.false_eq_true, if_false]
    exact hK undef ρ w R RV_undef (Ext.refl _ _ _)
theorem wp_exists {X : Prop} (h : o.wp P a w (fun _ _ => X) (fun _ _ _ => False)) : X := by
  unfold Oper.wp at h
  generalize (execOp a.eval o).run P w = r at h
  cases r with
  | ok n w' =>
    cases n <;> simp only [Oper.upon] at h <;> first | exact h | skip
    · obtain ⟨e, w', fr, hR, _⟩ := h []
      cases e <;> simp only [LetsOut, exists_false] at hR
      exact hR
    · obtain ⟨_, _, hR, _⟩ := h (Frame.ofRow P "" #[] .normal) []
      exact hR
  | halt x w' => cases x <;> exact False.elim h
theorem wpOp_exists {X : Prop} {i : Nat} {arr : Array Oper} (h : wpOp P arr (fun _ _ _ => False) i (fun _ _ => X) a w) : X := by
  unfold wpOp at h
  split at h
  · exact h
  · split at h
    · rcases h with h | ⟨_, a, w, h⟩
      · exact wp_exists h
      · exact h.elim
    · exact h
theorem const_ghost (hC : Sound P C) : ∀ (is : List Nat) (t : Tmps) (H : AHeap) (t0 : Tmps) (H0 : AHeap) (ρ : Ren) (w : World) (a : Act), constRun P C ops is t H = some (t0, H0) → Rel ρ H w → TOn ρ H.gen w (fun _ => True) t a →
    ∃ ρ' w' a', Rel ρ' H0 w' ∧ TOn ρ' H0.gen w' (fun _ => True) t0 a'
  | [], t, H, t0, H0, ρ, w, a, h, R, T => by
    simp only [constRun, Option.some.injEq, Prod.mk.injEq] at h
    obtain ⟨rfl, rfl⟩ := h
    exact ⟨ρ, w, a, R, T⟩
  | i :: is, t, H, t0, H0, ρ, w, a, h, R, T => by
    simp only [constRun] at h
    cases ho : ops[i]? with
    | none => rw [ho] at h; cases h
    | some o =>
      rw [ho] at h
      simp only at h
      cases hop : opA P C t o H with
      | none => rw [hop] at h; cases h
      | some r =>
        rw [hop] at h
        simp only at h
        obtain ⟨ρ', w', cv, r1, r2⟩ : ∃ ρ' w' cv, Rel ρ' r.2 w' ∧ TOn ρ' r.2.gen w' (fun _ => True) (putA t o.dst r.1) (a.put o.dst cv) :=
          wp_exists (op_sound hC hop R ((T.sub (D' := (· ∈ o.looksAt ops.toArray)) fun _ _ => trivial).eval) (Q := fun _ _ _ => False)
            fun cv ρ' w' r1 r2 r3 => ⟨ρ', w', cv, r1, (T.keep r3).put _ r2⟩)
        exact const_ghost hC is _ _ t0 H0 ρ' w' _ h r1 r2
theorem rest_ghost (hC : Sound P C) {t0 : Tmps} {H0 : AHeap} {T : Nat → Tmps} {Hp : Nat → AHeap} {val : Nat → AV} (S : DrawStates P C ops t0 H0 T Hp val) (R : Rel ρ H0 w) (TR : TOn ρ H0.gen w (fun _ => True) t0 a) :
    ∀ p, p ≤ ops.length → ∃ ρ' w' a', Rel ρ' (Hp p) w' ∧ TOn ρ' (Hp p).gen w' (fun _ => True) (T p) a' := by
  intro p
  induction p with
  | zero => intro _; rw [S.zero.1, S.zero.2]; exact ⟨ρ, w, a, R, TR⟩
  | succ p ih =>
    intro hp
    obtain ⟨ρ1, w1, a1, R1, T1⟩ := ih (by omega)
    cases hc : cst ops p with
    | true => obtain ⟨h1, h2⟩ := S.skip p (by omega) hc; rw [h1, h2]; exact ⟨ρ1, w1, a1, R1, T1⟩
    | false =>
      have ho : ops[p]? = some (ops[p]'(by omega)) := List.getElem?_eq_getElem _
      obtain ⟨h1, h2⟩ := S.step p _ ho hc
      rw [h2]
      exact wpOp_exists (step_wp hC h1 R1 (T1.sub fun _ _ => trivial) ho (Q := fun _ _ _ => False) fun cv ρ' w' r1 r2 r3 => ⟨ρ', w', _, r1, (T1.keep r3).put _ r2⟩)
theorem watchV_lt {x : AV} {n r : Nat} (h : NV n x) (hw : watchV x = some r) : r < n := by
  cases x <;> simp only [watchV] at hw <;> first | (cases hw; done) | (cases hw; simpa only [NV] using h)
theorem watch_lt {n r : Nat} (h : ∀ x ∈ o.op.operands, NV n (evalA t x)) (hw : watchA t o.op = some r) : r < n := by
  obtain ⟨dst, op, type, pos, after, guard⟩ := o
  cases op <;> simp only [watchA] at hw <;> first | (cases hw; done) | skip
  case call c =>
    split at hw
    · rename_i x hx
      refine watchV_lt (h x ?_) hw
      have : x ∈ c.args := by
        have : x ∈ c.args.toList := by rw [hx]; simp
        simpa using this
      simp [Op.operands, Call.operands, this]
    · cases hw
  all_goals exact watchV_lt (h _ (by simp [Op.operands])) hw
theorem NV_evalA {n : Nat} (h : ∀ d, NV n (t.getD d undefA)) (x : Operand) : NV n (evalA t x) := by
  cases x with
  | tmp d => exact h d
  | _ => simp [evalA, NV, NVs]
end

end Go.Proofs.YtjmldnpdfnklcaaDoor

namespace Go.Proofs.YtjmldnpdfnklcaaDoor

structure Draw (P : Program) (C : Callee) (ops : List Oper) (t : Tmps) (H : AHeap) (t0 : Tmps) (H0 : AHeap) (T : Nat → Tmps) (Hp : Nat → AHeap) (val : Nat → AV) (nm : Nat → Nat) : Prop where
  facts : DrawFacts ops
  S : DrawStates P C ops t0 H0 T Hp val
  names : ∀ j, j < ops.length → cst ops j = true → ∃ o, ops[j]? = some o ∧ H.next ≤ nm j ∧ nm j < H0.next ∧ ConstFact P o (val j) (nm j) (H0.get (nm j)) ∧ ∀ d, o.dst = some d → d < t.length → t0[d]? = some (val j)
  inj : ∀ i j, i < ops.length → j < ops.length → cst ops i = true → cst ops j = true → nm i = nm j → i = j
  rest : ∀ d, (∀ j, cst ops j = true → ∀ o, ops[j]? = some o → o.dst ≠ some d) → t0[d]? = t[d]?
  len : t0.length = t.length
  fresh : Fresh H H0
  gen0 : ∀ r, H.next ≤ r → H.gen r = 0 → H0.gen r = 0
  agr : ∀ p ∈ effPairs ops, agree P C ops t0 H0 p
  ghost : ∀ p, p ≤ ops.length → ∀ d, NV (Hp p).next ((T p).getD d undefA)
  keeps : KeepsC C
section
variable {P : Program} {C : Callee} {ops : List Oper} {t : Tmps} {H : AHeap} {t0 : Tmps} {H0 : AHeap} {T : Nat → Tmps} {Hp : Nat → AHeap} {val : Nat → AV} {nm : Nat → Nat}
theorem chn_ne {i : Nat} (h : chn ops i = true) : cst ops i = false ∧ flo ops i = false := by
  unfold chn at h
  simpa using h
theorem kinds (i : Nat) : cst ops i = true ∨ (cst ops i = false ∧ flo ops i = true) ∨ chn ops i = true := by
  unfold chn
  cases cst ops i <;> cases flo ops i <;> simp
theorem not_call_of_flo {i : Nat} {o : Oper} (ho : ops[i]? = some o) (h : flo ops i = true) : clsFloat o.op = true ∧ isCall o.op = false := by
  unfold flo at h
  rw [getOp_eq ho] at h
  refine ⟨h, ?_⟩
  obtain ⟨dst, op, type, pos, after, guard⟩ := o
  cases op <;> try rfl
  rename_i c
  simp only [clsFloat] at h
  simp only [isCall]
  cases hc : c.callee with
  | value f => rw [hc] at h; cases h
  | _ => rfl
namespace Draw
variable (D : Draw P C ops t H t0 H0 T Hp val nm)
include D
theorem get {p : Nat} (hp : p < ops.length) : ∃ o, ops[p]? = some o := ⟨_, List.getElem?_eq_getElem hp⟩
theorem lenT : ∀ p, p ≤ ops.length → (T p).length = t.length := by
  intro p
  induction p with
  | zero => intro _; rw [D.S.zero.1, D.len]
  | succ p ih =>
    intro hp
    cases hc : cst ops p with
    | true => rw [(D.S.skip p hp hc).1]; exact ih (by omega)
    | false =>
      obtain ⟨o, ho⟩ := D.get hp
      rw [(D.S.step p o ho hc).2, putA_length]; exact ih (by omega)
theorem tspec : ∀ p, p ≤ ops.length → ∀ d, d < t.length →
    (∀ i o, ops[i]? = some o → o.dst = some d → (cst ops i = true ∨ i < p) → (T p)[d]? = some (val i)) ∧
    ((∀ i o, ops[i]? = some o → (cst ops i = true ∨ i < p) → o.dst ≠ some d) → (T p)[d]? = t[d]?) := by
  intro p
  induction p with
  | zero =>
    intro _ d hd
    rw [D.S.zero.1]
    refine ⟨fun i o ho hdst hc => ?_, fun h => D.rest d fun j hj o ho => h j o ho (.inl hj)⟩
    have hc : cst ops i = true := hc.resolve_right (by omega)
    obtain ⟨o', ho', _, _, _, h5⟩ := D.names i (lt_of_getElem? ho) hc
    rw [ho] at ho'; cases ho'
    exact h5 d hdst hd
  | succ p ih =>
    intro hp d hd
    obtain ⟨ih1, ih2⟩ := ih (by omega) d hd
    cases hc : cst ops p with
    | true =>
      rw [(D.S.skip p hp hc).1]
      refine ⟨fun i o ho hdst hi => ih1 i o ho hdst ?_, fun h => ih2 fun i o ho hi => h i o ho (hi.imp id fun h => by omega)⟩
      rcases hi with hi | hi
      · exact .inl hi
      · by_cases e : i = p
        · subst e; exact .inl hc
        · exact .inr (by omega)
    | false =>
      obtain ⟨op, hop⟩ := D.get hp
      rw [(D.S.step p op hop hc).2, putA_get]
      by_cases hdp : op.dst = some d
      · have hl : d < (T p).length := by rw [D.lenT p (by omega)]; exact hd
        rw [if_pos ⟨hdp, hl⟩]
        refine ⟨fun i o ho hdst hi => ?_, fun h => absurd hdp (h p op hop (.inr (by omega)))⟩
        rw [D.facts.dsts i p o op d ho hop hdst hdp]
      · rw [if_neg fun h => hdp h.1]
        refine ⟨fun i o ho hdst hi => ih1 i o ho hdst ?_, fun h => ih2 fun i o ho hi => h i o ho (hi.imp id fun h => by omega)⟩
        rcases hi with hi | hi
        · exact .inl hi
        · refine .inr ?_
          have : i ≠ p := fun e => by subst e; rw [ho] at hop; cases hop; exact hdp hdst
          omega
/-- A step's kinds, as facts on the two heaps. -/
theorem flo_same {p : Nat} (hp : p < ops.length) (hc : cst ops p = false) (hf : flo ops p = true) : Hp (p + 1) = Hp p := by
  obtain ⟨o, ho⟩ := D.get hp
  obtain ⟨h1, _⟩ := D.S.step p o ho hc
  obtain ⟨f1, f2⟩ := not_call_of_flo ho hf
  unfold stepA at h1
  split at h1 <;> first | (cases h1; done) | skip
  · rw [f2, Bool.and_false, if_neg Bool.false_ne_true] at h1
    exact (float_op f1 h1).1
  · simp only [Option.some.injEq, Prod.mk.injEq] at h1; exact h1.2.symm
theorem step_next {p : Nat} (hp : p < ops.length) : (Hp p).next ≤ (Hp (p + 1)).next := by
  cases hc : cst ops p with
  | true => rw [(D.S.skip p hp hc).2]; exact Nat.le_refl _
  | false =>
    obtain ⟨o, ho⟩ := D.get hp
    obtain ⟨h1, _⟩ := D.S.step p o ho hc
    unfold stepA at h1
    split at h1 <;> first | (cases h1; done) | skip
    · split at h1
      · exact (opG_fresh D.keeps h1).1.2.1
      · exact (op_keeps D.keeps h1).next
    · simp only [Option.some.injEq, Prod.mk.injEq] at h1; rw [h1.2]; exact Nat.le_refl _
theorem next_mono {p : Nat} : ∀ k, p + k ≤ ops.length → (Hp p).next ≤ (Hp (p + k)).next := by
  intro k
  induction k with
  | zero => intro _; exact Nat.le_refl _
  | succ k ih => intro h; exact Nat.le_trans (ih (by omega)) (D.step_next (by omega))
theorem next_le {p q : Nat} (h : p ≤ q) (hq : q ≤ ops.length) : (Hp p).next ≤ (Hp q).next := by
  have := D.next_mono (p := p) (q - p) (by omega)
  rwa [show p + (q - p) = q by omega] at this
theorem next0 {p : Nat} (hp : p ≤ ops.length) : H0.next ≤ (Hp p).next := by
  have := D.next_le (Nat.zero_le p) hp
  rwa [D.S.zero.2] at this
theorem same_step {p : Nat} (hp : p < ops.length) (h : chn ops p = false) : Hp (p + 1) = Hp p := by
  rcases kinds (ops := ops) p with hc | ⟨hc, hf⟩ | hc
  · exact (D.S.skip p hp hc).2
  · exact D.flo_same hp hc hf
  · rw [hc] at h; cases h
theorem same_add {e : Nat} : ∀ k, e + k ≤ ops.length → (∀ i, e ≤ i → i < e + k → chn ops i = false) → Hp (e + k) = Hp e := by
  intro k
  induction k with
  | zero => intro _ _; rfl
  | succ k ih =>
    intro hk h
    show Hp (e + k + 1) = Hp e
    rw [D.same_step (by omega) (h (e + k) (by omega) (by omega))]
    exact ih (by omega) fun i h1 h2 => h i h1 (by omega)
theorem same_between {e e' : Nat} (h : e ≤ e') (he' : e' ≤ ops.length) (hn : ∀ i, e ≤ i → i < e' → chn ops i = false) : Hp e' = Hp e := by
  have := D.same_add (e := e) (e' - e) (by omega) fun i h1 h2 => hn i h1 (by omega)
  rwa [show e + (e' - e) = e' by omega] at this
theorem quiet_step {p : Nat} (hp : p < ops.length) (hc : chn ops p = true) (hq : clsQuiet (getOp ops p) = true) (hl : loose ops p = true) : ∀ r, r < (Hp p).next → (Hp (p + 1)).get r = (Hp p).get r := by
  obtain ⟨o, ho⟩ := D.get hp
  obtain ⟨h1, _⟩ := D.S.step p o ho (chn_ne hc).1
  rw [getOp_eq ho] at hq
  unfold stepA at h1
  split at h1 <;> first | (cases h1; done) | skip
  · rw [hl, Bool.true_and] at h1
    split at h1
    · exact (opG_fresh D.keeps h1).1.2.2
    · rename_i hcall
      exact (quiet_fresh hq (by simpa using hcall) h1).2.2
  · simp only [Option.some.injEq, Prod.mk.injEq] at h1; rw [h1.2]; exact fun _ _ => rfl
theorem constObj {k : Nat} (hk : k < ops.length) (hc : cst ops k = true) : ∀ e, e ≤ ops.length → (∀ i, i < e → chn ops i = true → isBef ops k i = false) → (Hp e).get (nm k) = H0.get (nm k) := by
  intro e
  induction e with
  | zero => intro _ _; rw [D.S.zero.2]
  | succ e ih =>
    intro he h
    have ih := ih (by omega) fun i hi => h i (by omega)
    cases hch : chn ops e with
    | false => rw [D.same_step (by omega) hch]; exact ih
    | true =>
      have hb := h e (by omega) hch
      obtain ⟨hq, _⟩ := D.facts.loose k e hk (by omega) hc hch hb
      have hl : loose ops e = true := by
        unfold loose
        refine List.any_eq_true.2 ⟨k, List.mem_range.2 hk, ?_⟩
        rw [hc, hch, hb]; simp
      obtain ⟨o, ho, _, hlt, _⟩ := D.names k hk hc
      rw [D.quiet_step (by omega) hch hq hl (nm k) (Nat.lt_of_lt_of_le hlt (D.next0 (by omega)))]
      exact ih
theorem watch_same {j : Nat} (hj : j < ops.length) {r : Nat} (hw : watchA (T j) (getOp ops j) = some r) {e1 : Nat} (hr : r < (Hp e1).next) :
    ∀ k, e1 + k ≤ ops.length → (∀ i, e1 ≤ i → i < e1 + k → chn ops i = true → unord ops j i = true) → (Hp (e1 + k)).get r = (Hp e1).get r := by
  intro k
  induction k with
  | zero => intro _ _; rfl
  | succ k ih =>
    intro hk h
    have ih := ih (by omega) fun i h1 h2 => h i h1 (by omega)
    show (Hp (e1 + k + 1)).get r = _
    cases hch : chn ops (e1 + k) with
    | false => rw [D.same_step (by omega) hch]; exact ih
    | true =>
      have hu := h (e1 + k) (by omega) (by omega) hch
      cases hq : clsQuiet (getOp ops (e1 + k)) with
      | true =>
        have hl : loose ops (e1 + k) = true := by
          unfold loose
          refine List.any_eq_true.2 ⟨j, List.mem_range.2 hj, ?_⟩
          rw [hu, Bool.true_or]
        rw [D.quiet_step (by omega) hch hq hl r (Nat.lt_of_lt_of_le hr (D.next_le (by omega) (by omega)))]
        exact ih
      | false =>
        have hmem : (j, e1 + k) ∈ effPairs ops := by
          unfold effPairs
          refine List.mem_flatMap.2 ⟨j, List.mem_range.2 hj, List.mem_map.2 ⟨e1 + k, List.mem_filter.2 ⟨List.mem_range.2 (by omega), ?_⟩, rfl⟩⟩
          rw [hu, hq]; rfl
        have := D.agr _ hmem (T j) (Hp j) (T (e1 + k)) (Hp (e1 + k)) (T (e1 + k + 1)) (Hp (e1 + k + 1)) (D.S.at_ j (by omega)) (D.S.at_ _ (by omega)) (D.S.at_ _ (by omega)) r hw
        rw [this]; exact ih
/-- Of two operations, neither new memory, the earlier one in a forced order is the earlier one in the text. -/
theorem bef_le {i j : Nat} (hj : cst ops j = false) (h : isBef ops i j = true) (hi : cst ops i = false) : i ≤ j := by
  have := before_listed (ops := ops) (L := fun k => cst ops k = true ∨ k ≤ j) (fun k o ho hk e he hb => by
    obtain ⟨_, h2⟩ := D.facts.edges k o ho e he hb
    unfold ahead at h2
    by_cases hck : cst ops k = true
    · by_cases hce : cst ops e.on = true
      · exact .inl hce
      · simp only [Bool.not_eq_true] at hce
        rw [hck, hce] at h2
        simp at h2
    · simp only [Bool.not_eq_true] at hck
      have hk : k ≤ j := hk.resolve_left (by simp [hck])
      by_cases hce : cst ops e.on = true
      · exact .inl hce
      · simp only [Bool.not_eq_true] at hce
        rw [hck, hce] at h2
        simp at h2
        exact .inr (by omega)) i j h (.inr (Nat.le_refl _))
  rcases this with h | h
  · rw [hi] at h; cases h
  · exact h
end Draw
/-- What is listed. -/
abbrev Li (listed : Array Bool) (j : Nat) : Prop := listed.getD j false = true
structure Inv (ops : List Oper) (t : Tmps) (Hp : Nat → AHeap) (val : Nat → AV) (nm : Nat → Nat) (H : AHeap) (ρ0 : Ren) (w0 : World) (a0 : Act) (listed : Array Bool) (a : Act) (w : World) (e : Nat) (ρ : Ren) : Prop where
  size : listed.size = ops.length
  down : ∀ j o, ops[j]? = some o → Li listed j → ∀ ed ∈ o.after, Region.binds .any ed = true → Li listed ed.on
  le : e ≤ ops.length
  chain : ∀ i, i < ops.length → chn ops i = true → (Li listed i ↔ i < e)
  rel : Rel ρ (Hp e) w
  none : ∀ k, k < ops.length → cst ops k = true → ¬ Li listed k → ρ (nm k) = none
  ext : Ext ρ0 H w0 ρ (Hp e) w
  asize : a.tmps.size = t.length
  tmps : ∀ d, d < t.length → (∀ j o, ops[j]? = some o → Li listed j → o.dst = some d → RV ρ (Hp e).gen w (val j) (a.tmps.getD d undef)) ∧
    ((∀ j o, ops[j]? = some o → Li listed j → o.dst ≠ some d) → RV ρ (Hp e).gen w (t.getD d undefA) (a.tmps.getD d undef))
  defers : a.defers = a0.defers
theorem li_set {listed : Array Bool} {i j : Nat} : Li (listed.setIfInBounds i true) j ↔ Li listed j ∨ (j = i ∧ i < listed.size) := by
  unfold Li
  by_cases e : i = j
  · subst e
    by_cases hl : i < listed.size
    · simp [hl]
    · simp [hl]
  · rw [getD_set_ne false e]
    simp [Ne.symm e]
section
variable {ρ0 : Ren} {w0 : World} {a0 : Act} {listed : Array Bool} {a : Act} {w : World} {e : Nat} {ρ : Ren}
/-- What is ready: the operation, and all that is ahead of it is listed. -/
theorem ready_facts {j : Nat} (hs : listed.size = ops.length) (hdown : ∀ j o, ops[j]? = some o → Li listed j → ∀ ed ∈ o.after, Region.binds .any ed = true → Li listed ed.on) (h : j ∈ Region.ready .any ops.toArray listed) :
    ∃ o, ops[j]? = some o ∧ ¬ Li listed j ∧ (∀ i, i ≠ j → isBef ops i j = true → Li listed i) ∧ (∀ i, isBef ops j i = true → ¬ Li listed i) ∧
      ∀ k o', ops[k]? = some o' → Li (listed.setIfInBounds j true) k → ∀ ed ∈ o'.after, Region.binds .any ed = true → Li (listed.setIfInBounds j true) ed.on := by
  obtain ⟨h0, o, ho, hall⟩ := mem_ready.1 h
  have ho : ops[j]? = some o := by simpa using ho
  have hlt := lt_of_getElem? ho
  have hnl : ¬ Li listed j := by
    unfold Li
    rw [Array.getD_eq_getD_getElem?] at h0 ⊢
    rw [Array.getElem?_eq_getElem (by omega)] at h0 ⊢
    simp only [Option.getD_some] at h0 ⊢
    simp [h0]
  have hd2 : ∀ k o', ops[k]? = some o' → Li (listed.setIfInBounds j true) k → ∀ ed ∈ o'.after, Region.binds .any ed = true → Li (listed.setIfInBounds j true) ed.on := by
    intro k o' hk hl ed he hb
    rcases li_set.1 hl with hl | ⟨rfl, _⟩
    · exact li_set.2 (.inl (hdown k o' hk hl ed he hb))
    · rw [ho] at hk; cases hk
      exact li_set.2 (.inl (hall ed he hb))
  refine ⟨o, ho, hnl, fun i hne hb => ?_, fun i hb hl => hnl (before_listed (L := Li listed) hdown j i hb hl), hd2⟩
  have := before_listed (L := Li (listed.setIfInBounds j true)) hd2 i j hb (li_set.2 (.inr ⟨rfl, by omega⟩))
  rcases li_set.1 this with h | ⟨h, _⟩
  · exact h
  · exact absurd h hne
variable (D : Draw P C ops t H t0 H0 T Hp val nm)
include D
/-- What an operation looks at is what the interpreter looks at. -/
theorem opnd (I : Inv ops t Hp val nm H ρ0 w0 a0 listed a w e ρ) {j : Nat} {o : Oper} (ho : ops[j]? = some o) (hc : cst ops j = false) (hnl : ¬ Li listed j)
    (hpre : ∀ i, i ≠ j → isBef ops i j = true → Li listed i) (hpost : ∀ i, isBef ops j i = true → ¬ Li listed i) : TOn ρ (Hp e).gen w (· ∈ o.looksAt ops.toArray) (T j) a := by
  have hj := lt_of_getElem? ho
  have hlen := D.lenT j (by omega)
  refine ⟨by rw [I.asize, hlen], fun d hd hl => ?_⟩
  rw [hlen] at hl
  obtain ⟨t1, t2⟩ := I.tmps d hl
  obtain ⟨s1, s2⟩ := D.tspec j (by omega) d hl
  have hget : ∀ x, (T j)[d]? = some x → (T j).getD d undefA = x := fun x hx => by simp [List.getD, hx]
  by_cases hex : ∃ i oi, ops[i]? = some oi ∧ Li listed i ∧ oi.dst = some d
  · obtain ⟨i, oi, hoi, hli, hdst⟩ := hex
    have hne : i ≠ j := fun e => hnl (e ▸ hli)
    have hdone : cst ops i = true ∨ i < j := by
      rcases D.facts.uses i j oi o d hne hoi ho hdst hd with ⟨_, h⟩ | ⟨h, _⟩
      · unfold ahead at h
        rw [hc] at h
        cases hci : cst ops i with
        | true => exact .inl rfl
        | false => rw [hci] at h; simp at h; exact .inr h
      · exact absurd hli (hpost i h)
    rw [hget _ (s1 i oi hoi hdst hdone)]
    exact t1 i oi hoi hli hdst
  · have hnone : ∀ i oi, ops[i]? = some oi → Li listed i → oi.dst ≠ some d := fun i oi h1 h2 h3 => hex ⟨i, oi, h1, h2, h3⟩
    have h2 := s2 fun i oi hoi hdone hdst => by
      have hne : i ≠ j := fun e => by
        subst e
        rcases hdone with h | h
        · rw [hc] at h; cases h
        · omega
      rcases D.facts.uses i j oi o d hne hoi ho hdst hd with ⟨h, _⟩ | ⟨_, h⟩
      · exact hnone i oi hoi (hpre i hne h) hdst
      · unfold ahead at h
        rw [hc] at h
        cases hci : cst ops i with
        | true => rw [hci] at h; simp at h
        | false =>
          rw [hci] at h hdone; simp at h hdone
          omega
    have : (T j).getD d undefA = t.getD d undefA := by simp only [List.getD, h2]
    rw [this]; exact t2 hnone
/-- The state goes on by one operation. -/
theorem Inv.on (I : Inv ops t Hp val nm H ρ0 w0 a0 listed a w e ρ) {j : Nat} {o : Oper} (ho : ops[j]? = some o) (hnl : ¬ Li listed j)
    (hd2 : ∀ k o', ops[k]? = some o' → Li (listed.setIfInBounds j true) k → ∀ ed ∈ o'.after, Region.binds .any ed = true → Li (listed.setIfInBounds j true) ed.on)
    {e' : Nat} (he' : e' ≤ ops.length) (hch : ∀ i, i < ops.length → chn ops i = true → (Li (listed.setIfInBounds j true) i ↔ i < e'))
    {ρ' : Ren} {w' : World} {cv : Value} (R : Rel ρ' (Hp e') w') (hn : ∀ k, k < ops.length → cst ops k = true → ¬ Li (listed.setIfInBounds j true) k → ρ' (nm k) = Option.none)
    (E : Ext ρ0 H w0 ρ' (Hp e') w') (M : Mono ρ (Hp e).gen w ρ' (Hp e').gen w') (hv : RV ρ' (Hp e').gen w' (val j) cv) : Inv ops t Hp val nm H ρ0 w0 a0 (listed.setIfInBounds j true) (a.put o.dst cv) w' e' ρ' where
  size := by rw [Array.size_setIfInBounds]; exact I.size
  down := hd2
  le := he'
  chain := hch
  rel := R
  none := hn
  ext := E
  asize := by rw [← I.asize]; cases o.dst <;> simp [Act.put]
  tmps := fun d hd => by
    obtain ⟨t1, t2⟩ := I.tmps d hd
    have hda : d < a.tmps.size := by rw [I.asize]; exact hd
    have hj := lt_of_getElem? ho
    by_cases hdst : o.dst = some d
    · have hput : (a.put o.dst cv).tmps.getD d undef = cv := by rw [hdst]; simp [Act.put, Array.getD, hda]
      rw [hput]
      refine ⟨fun i oi hoi _ hdi => ?_, fun h => absurd hdst (h j o ho (li_set.2 (.inr ⟨rfl, by rw [I.size]; exact hj⟩)))⟩
      rw [D.facts.dsts i j oi o d hoi ho hdi hdst]; exact hv
    · have hput : (a.put o.dst cv).tmps.getD d undef = a.tmps.getD d undef := by
        cases hd' : o.dst with
        | none => rfl
        | some d' =>
          have hne : d' ≠ d := fun e => hdst (by rw [hd', e])
          simp [Act.put, Array.getElem?_setIfInBounds_ne hne]
      rw [hput]
      refine ⟨fun i oi hoi hli hdi => ?_, fun h => RV.mono M _ _ (t2 fun i oi hoi hli => h i oi hoi (li_set.2 (.inl hli)))⟩
      rcases li_set.1 hli with hli | ⟨rfl, _⟩
      · exact RV.mono M _ _ (t1 i oi hoi hli hdi)
      · rw [ho] at hoi; cases hoi; exact absurd hdi hdst
  defers := by rw [← I.defers]; cases o.dst <;> rfl
end
end

end Go.Proofs.YtjmldnpdfnklcaaDoor

namespace Go.Proofs.YtjmldnpdfnklcaaDoor

theorem assign_mono {ρ : Ren} {G : Nat → Nat} {w : World} {r0 : Nat} (h : ρ r0 = none) (co : Obj) : Mono ρ G w (updρ ρ r0 (w.heap.size, 0)) G (w.alloc co) where
  mono := fun _ => Nat.le_refl _
  same := fun x y hx _ => by
    unfold updρ
    rw [if_neg (fun e => by subst e; rw [h] at hx; cases hx)]; exact hx
  imm := fun b hb hi => by
    refine ⟨by simp; omega, fun x sh hx => ?_, fun o => cell?_of_block (by simp only [World.alloc, Array.getElem?_push, if_neg (Nat.ne_of_lt hb)])⟩
    unfold updρ at hx
    split at hx
    · cases hx; omega
    · exact hi x sh hx
  shape := fun b e m hb => by
    have := shape?_lt hb
    rw [shape?_eq] at hb ⊢
    simpa only [World.alloc, Array.getElem?_push, if_neg (Nat.ne_of_lt this)] using hb
theorem assign_rel {ρ : Ren} {H : AHeap} {w : World} (R : Rel ρ H w) {r0 : Nat} (h : ρ r0 = none) (hr : r0 < H.next) {ty : TypeId} {z : List AV} {cs : Array Value} (ho : H.get r0 = .blk 0 ty z) (hty : ty < tagB) (hz : RVs ρ H.gen w z cs.toList) :
    Rel (updρ ρ r0 (w.heap.size, 0)) H (w.alloc (.cells cs ty)) where
  out := fun x hx => by
    unfold updρ
    rw [if_neg (by omega)]; exact R.out x hx
  obj := fun x b s hx => by
    have M := assign_mono (G := H.gen) (w := w) h (.cells cs ty)
    unfold updρ at hx
    by_cases e : x = r0
    · subst e
      simp at hx
      obtain ⟨rfl, rfl⟩ := hx
      rw [ho]
      refine ⟨cs, ty, alloc_heap w _, ?_, ?_, Xct.low hty (by have := RVs_length hz; rw [array_toList_length] at this; omega)⟩
      · have := RVs_length hz; simp at this; omega
      · refine RVc_of_array (alloc_heap w _) fun i x hx => ?_
        obtain ⟨v, hv, h1⟩ := RVs_get hz hx
        exact ⟨v, by simpa using hv, RV.mono M _ _ h1⟩
    · rw [if_neg e] at hx
      have hb := R.block hx
      exact RObj.mono M (by simp only [World.alloc, Array.getElem?_push, if_neg (Nat.ne_of_lt hb)]) (R.obj x b s hx)
  inj := fun x y b' s s' hx hy => by
    unfold updρ at hx hy
    split at hx <;> split at hy
    · simp_all
    · cases hx; have := R.block hy; omega
    · cases hy; have := R.block hx; omega
    · exact R.inj _ _ _ _ _ hx hy
  gl := R.gl.of (by simp) (fun x b s hx => by
    unfold updρ at hx
    split at hx
    · cases hx; exact .inl (Nat.le_refl _)
    · exact .inr ⟨_, _, hx⟩) (fun b hb _ => by simp only [World.alloc, Array.getElem?_push, if_neg (Nat.ne_of_lt hb)])
theorem assign_ext {ρ0 ρ : Ren} {H0 H : AHeap} {w0 w : World} (E : Ext ρ0 H0 w0 ρ H w) {r0 : Nat} (h0 : H0.next ≤ r0) (hn : ρ r0 = none) (co : Obj) : Ext ρ0 H0 w0 (updρ ρ r0 (w.heap.size, 0)) H (w.alloc co) where
  next := E.next
  mono := E.mono
  same := fun x y hx hg => by
    have h1 := E.same x y hx hg
    unfold updρ
    rw [if_neg (fun e => by subst e; rw [hn] at h1; cases h1)]; exact h1
  kept := fun x hx h => by
    unfold updρ
    rw [if_neg (by omega)]; exact E.kept x hx h
  range := fun x b s hx => by
    unfold updρ at hx
    split at hx
    · cases hx; exact .inl E.size
    · exact E.range x b s hx
  size := by simp; have := E.size; omega
  frame := fun b hb hi => by
    have := E.size
    rw [← E.frame b hb hi]
    simp only [World.alloc, Array.getElem?_push, if_neg (show ¬ b = w.heap.size by omega)]
  shape := fun b hb => by
    have := E.size
    rw [← E.shape b hb, shape?_eq, shape?_eq]
    simp only [World.alloc, Array.getElem?_push, if_neg (show ¬ b = w.heap.size by omega)]
  os := E.os
  tape := E.tape
  output := E.output
theorem fresh_rel {ρ : Ren} {H H0 : AHeap} {w : World} (R : Rel ρ H w) (F : Fresh H H0) (g : ∀ r, H.next ≤ r → H.gen r = 0 → H0.gen r = 0) : H0.gen = H.gen ∧ Rel ρ H0 w ∧ Ext ρ H w ρ H0 w := by
  have hg : H0.gen = H.gen := by
    funext r
    rcases Nat.lt_or_ge r H.next with h | h
    · simp only [AHeap.gen, F.2.2 r h]
    · rw [g r h (R.out r h).2, (R.out r h).2]
  have E := Ext.refl ρ H w
  refine ⟨hg, ⟨fun r hr => ⟨(R.out r (Nat.le_trans F.2.1 hr)).1, by rw [hg]; exact (R.out r (Nat.le_trans F.2.1 hr)).2⟩, fun r b sh h => ?_, R.inj, R.gl⟩,
    ⟨F.2.1, fun r => by rw [hg]; exact Nat.le_refl _, fun r x h _ => h, E.kept, E.range, E.size, E.frame, E.shape, E.os, E.tape, E.output⟩⟩
  rw [hg, F.2.2 r (R.lt h)]; exact R.obj r b sh h
section
variable {P : Program} {C : Callee} {ops : List Oper} {t : Tmps} {H : AHeap} {t0 : Tmps} {H0 : AHeap} {T : Nat → Tmps} {Hp : Nat → AHeap} {val : Nat → AV} {nm : Nat → Nat}
variable {ρ0 : Ren} {w0 : World} {a0 : Act} {listed : Array Bool} {a : Act} {w : World} {e : Nat} {ρ : Ren}
theorem set_not {j k : Nat} (h : ¬ Li (listed.setIfInBounds j true) k) : ¬ Li listed k := fun hl => h (li_set.2 (.inl hl))
theorem set_other {j i : Nat} (hne : i ≠ j) : Li (listed.setIfInBounds j true) i ↔ Li listed i := by
  rw [li_set]; exact ⟨fun h => h.resolve_right fun h => hne h.1, .inl⟩
theorem inv_step (hC : Sound P C) (D : Draw P C ops t H t0 H0 T Hp val nm) (I : Inv ops t Hp val nm H ρ0 w0 a0 listed a w e ρ) {j : Nat} (hr : j ∈ Region.ready .any ops.toArray listed) {K : Act → World → Prop} {Q : Exit → Act → World → Prop}
    (hK : ∀ a' w' e' ρ', Inv ops t Hp val nm H ρ0 w0 a0 (listed.setIfInBounds j true) a' w' e' ρ' → K a' w') : wpOp P ops.toArray Q j K a w := by
  obtain ⟨o, ho, hnl, hpre, hpost, hd2⟩ := ready_facts I.size I.down hr
  have hj := lt_of_getElem? ho
  rcases kinds (ops := ops) j with hc | ⟨hc, hf⟩ | hc
  · -- new memory
    obtain ⟨o', ho', n1, n2, ⟨ty, z, mk, hval, hob, hrun⟩, _⟩ := D.names j hj hc
    rw [ho] at ho'; cases ho'
    obtain ⟨hg, _⟩ := D.facts.const j o ho hc
    obtain ⟨cs, cv, h1, ⟨h2, hty⟩, h3⟩ := hrun ρ (Hp e).gen w a
    have hun := I.none j hj hc hnl
    have hobj : (Hp e).get (nm j) = .blk 0 ty z := by
      rw [← hob]
      refine D.constObj hj hc e I.le fun i hi hch => ?_
      have hli := (I.chain i (by have := I.le; omega) hch).2 hi
      cases hb : isBef ops j i with
      | false => rfl
      | true => exact absurd hli (hpost i hb)
    have hgen : (Hp e).gen (nm j) = 0 := by simp [AHeap.gen, hobj, AObj.gen]
    unfold wpOp
    have hoa : ops.toArray[j]? = some o := by simpa using ho
    simp only [hoa, Region.wanted, hg, if_true]
    left
    unfold Oper.wp
    rw [h1]
    simp only [Oper.upon]
    refine hK _ _ e (updρ ρ (nm j) (w.heap.size, 0)) (Inv.on D I ho hnl hd2 I.le (fun i hi hch => ?_)
      (assign_rel I.rel hun (Nat.lt_of_lt_of_le n2 (D.next0 I.le)) hobj hty h2) (fun k hk hck hkl => ?_) (assign_ext I.ext n1 hun _) (assign_mono hun _) ?_)
    · rw [set_other (fun e => by subst e; rw [(chn_ne hch).1] at hc; cases hc)]
      exact I.chain i hi hch
    · have hkl' := set_not hkl
      have hne : nm k ≠ nm j := fun e => by
        have := D.inj k j hk hj hck hc e
        subst this
        exact hkl (li_set.2 (.inr ⟨rfl, by rw [I.size]; exact hk⟩))
      unfold updρ
      rw [if_neg hne]; exact I.none k hk hck hkl'
    · rw [hval]
      exact h3 _ _ (nm j) hgen (by simp [updρ])
  · -- it changes nothing
    have T0 := opnd D I ho hc hnl hpre hpost
    obtain ⟨s1, _⟩ := D.S.step j o ho hc
    obtain ⟨f1, f2⟩ := not_call_of_flo ho hf
    have hsame : looks o.op = true → ∀ r, watchA (T j) o.op = some r → (Hp e).get r = (Hp j).get r := by
      intro hlk r hw
      have hre : r < (Hp e).next := watch_lt (fun x hx => RV.nv I.rel.out _ _ (T0.eval x hx)) hw
      have hrj : r < (Hp j).next := watch_lt (fun x _ => NV_evalA (D.ghost j (by omega)) x) hw
      have hw' : watchA (T j) (getOp ops j) = some r := by rw [getOp_eq ho]; exact hw
      have hle := I.le
      have hun : ∀ i, i < ops.length → chn ops i = true → isBef ops i j = false → isBef ops j i = false → unord ops j i = true := by
        intro i _ hch hb1 hb2
        unfold unord
        rw [hch, hf, getOp_eq ho, hlk, hb2, hb1]; rfl
      rcases Nat.le_total e j with hej | hje
      · have := D.watch_same hj hw' hre (j - e) (by omega) fun i h1 h2 hch => by
          have hil : ¬ Li listed i := fun hl => by have := (I.chain i (by omega) hch).1 hl; omega
          have hne : i ≠ j := by omega
          refine hun i (by omega) hch ?_ ?_
          · cases hb : isBef ops i j with
            | false => rfl
            | true => exact absurd (hpre i hne hb) hil
          · cases hb : isBef ops j i with
            | false => rfl
            | true => have := D.bef_le (chn_ne hch).1 hb hc; omega
        rw [show e + (j - e) = j by omega] at this
        exact this.symm
      · have := D.watch_same hj hw' hrj (e - j) (by omega) fun i h1 h2 hch => by
          have hil : Li listed i := (I.chain i (by omega) hch).2 (by omega)
          have hne : i ≠ j := fun e => by subst e; rw [(chn_ne hch).2] at hf; cases hf
          refine hun i (by omega) hch ?_ ?_
          · cases hb : isBef ops i j with
            | false => rfl
            | true => have := D.bef_le hc hb (chn_ne hch).1; omega
          · cases hb : isBef ops j i with
            | false => rfl
            | true => exact absurd hil (hpost i hb)
        rw [show j + (e - j) = e by omega] at this
        exact this
    have hs : stepA P C ops (loose ops j && isCall o.op) o (T j) (Hp e) = some (val j, Hp e) := by
      have hflo := D.flo_same hj hc hf
      rw [hflo] at s1
      unfold stepA at s1 ⊢
      split at s1 <;> first | (cases s1; done) | skip
      · rw [f2, Bool.and_false, if_neg Bool.false_ne_true] at s1
        simp only [f2, Bool.and_false, if_neg Bool.false_ne_true]
        exact (float_op f1 s1).2 (Hp e) hsame
      · simp only [Option.some.injEq, Prod.mk.injEq] at s1 ⊢
        exact ⟨s1.1, trivial⟩
    refine step_wp hC hs I.rel T0 ho fun cv ρ' w' r1 r2 r3 => hK _ _ e ρ' (Inv.on D I ho hnl hd2 I.le (fun i hi hch => ?_) r1 (fun k hk hck hkl => ?_) (I.ext.trans r3) r3.toMono r2)
    · rw [set_other (fun e => by subst e; rw [(chn_ne hch).2] at hf; cases hf)]
      exact I.chain i hi hch
    · obtain ⟨_, _, _, n2, _⟩ := D.names k hk hck
      exact r3.kept _ (Nat.lt_of_lt_of_le n2 (D.next0 I.le)) (I.none k hk hck (set_not hkl))
  · -- the chain
    have hcc := (chn_ne hc).1
    have T0 := opnd D I ho hcc hnl hpre hpost
    obtain ⟨s1, _⟩ := D.S.step j o ho hcc
    have hej : e ≤ j := by
      rcases Nat.lt_or_ge j e with h | h
      · exact absurd ((I.chain j hj hc).2 h) hnl
      · exact h
    have hH : Hp j = Hp e := D.same_between hej (by omega) fun i h1 h2 => by
      cases hch : chn ops i with
      | false => rfl
      | true =>
        have := hpre i (by omega) (D.facts.chain i j h2 hj hch hc)
        have := (I.chain i (by omega) hch).1 this
        omega
    rw [hH] at s1
    refine step_wp hC s1 I.rel T0 ho fun cv ρ' w' r1 r2 r3 => hK _ _ (j + 1) ρ' (Inv.on D I ho hnl hd2 hj (fun i hi hch => ?_) r1 (fun k hk hck hkl => ?_) (I.ext.trans r3) r3.toMono r2)
    · by_cases e1 : i = j
      · subst e1
        exact ⟨fun _ => by omega, fun _ => li_set.2 (.inr ⟨rfl, by rw [I.size]; exact hi⟩)⟩
      · rw [set_other e1]
        refine ⟨fun hl => by have := (I.chain i hi hch).1 hl; omega, fun hlt => hpre i e1 (D.facts.chain i j (by omega) hj hch hc)⟩
    · obtain ⟨_, _, _, n2, _⟩ := D.names k hk hck
      exact r3.kept _ (Nat.lt_of_lt_of_le n2 (D.next0 I.le)) (I.none k hk hck (set_not hkl))
def unl : List Bool → Nat
  | [] => 0
  | true :: l => unl l
  | false :: l => unl l + 1
theorem unl_set : ∀ (l : List Bool) (i : Nat), l[i]? = some false → unl (l.set i true) + 1 = unl l
  | [], i, h => by simp at h
  | b :: l, 0, h => by simp at h; subst h; simp [unl]
  | b :: l, i + 1, h => by
    simp at h
    have := unl_set l i (by simpa using h)
    cases b <;> simp [unl] <;> omega
theorem unl_zero : ∀ (l : List Bool), unl l = 0 → ∀ (i : Nat), i < l.length → l[i]? = some true
  | [], _, i, hi => by simp at hi
  | b :: l, h, 0, _ => by cases b <;> simp_all [unl]
  | b :: l, h, i + 1, hi => by
    have h' : unl l = 0 := by cases b <;> simp_all [unl]
    simpa using unl_zero l h' i (by simpa using hi)
theorem li_get {j : Nat} (hj : j < listed.size) : Li listed j ↔ listed.toList[j]? = some true := by
  unfold Li
  simp [Array.getD, hj]
theorem not_li_get {j : Nat} (hj : j < listed.size) : ¬ Li listed j ↔ listed.toList[j]? = some false := by
  unfold Li
  simp [Array.getD, hj]
theorem least {p : Nat → Prop} : ∀ n, p n → ∃ m, p m ∧ ∀ i, i < m → ¬ p i := by
  intro n
  induction n using Nat.strongRecOn with
  | ind n ih =>
    intro hn
    by_cases h : ∃ i, i < n ∧ p i
    · obtain ⟨i, hi, hp⟩ := h; exact ih i hi hp
    · exact ⟨n, hn, fun i hi hp => h ⟨i, hi, hp⟩⟩
theorem ready_exists (F : DrawFacts ops) (hs : listed.size = ops.length) {k : Nat} (hk : k < ops.length) (hnl : ¬ Li listed k) : Region.ready .any ops.toArray listed ≠ [] := by
  have key : ∀ m, m < ops.length → ¬ Li listed m → (∀ o, ops[m]? = some o → ∀ e ∈ o.after, Region.binds .any e = true → Li listed e.on) → Region.ready .any ops.toArray listed ≠ [] := by
    intro m hm hn he hnil
    have : m ∈ Region.ready .any ops.toArray listed := by
      refine mem_ready.2 ⟨?_, ops[m]'hm, by simp [hm], fun e h1 h2 => he _ (List.getElem?_eq_getElem hm) e h1 h2⟩
      unfold Li at hn
      rw [Array.getD_eq_getD_getElem?] at hn ⊢
      rw [Array.getElem?_eq_getElem (by omega)] at hn ⊢
      simpa using hn
    rw [hnil] at this; cases this
  by_cases hex : ∃ m, m < ops.length ∧ cst ops m = true ∧ ¬ Li listed m
  · obtain ⟨m, hm⟩ := hex
    obtain ⟨m, ⟨h1, h2, h3⟩, hmin⟩ := least (p := fun m => m < ops.length ∧ cst ops m = true ∧ ¬ Li listed m) m hm
    refine key m h1 h3 fun o ho e he hb => ?_
    obtain ⟨q1, q2⟩ := F.edges m o ho e he hb
    unfold ahead at q2
    rw [h2] at q2
    cases hce : cst ops e.on with
    | false => rw [hce] at q2; simp at q2
    | true =>
      rw [hce] at q2
      simp at q2
      by_cases hl : Li listed e.on
      · exact hl
      · exact absurd ⟨q1, hce, hl⟩ (hmin e.on q2)
  · obtain ⟨m, ⟨h1, h3⟩, hmin⟩ := least (p := fun m => m < ops.length ∧ ¬ Li listed m) k ⟨hk, hnl⟩
    refine key m h1 h3 fun o ho e he hb => ?_
    obtain ⟨q1, q2⟩ := F.edges m o ho e he hb
    by_cases hl : Li listed e.on
    · exact hl
    · exfalso
      have c1 : cst ops m = false := by cases hc : cst ops m with
        | false => rfl
        | true => exact absurd ⟨m, h1, hc, h3⟩ hex
      have c2 : cst ops e.on = false := by cases hc : cst ops e.on with
        | false => rfl
        | true => exact absurd ⟨_, q1, hc, hl⟩ hex
      unfold ahead at q2
      rw [c1, c2] at q2
      simp at q2
      exact hmin e.on q2 ⟨q1, hl⟩
theorem inv_end (D : Draw P C ops t H t0 H0 T Hp val nm) (I : Inv ops t Hp val nm H ρ0 w0 a0 listed a w e ρ) (hall : ∀ i, i < ops.length → Li listed i) :
    Rel ρ (Hp ops.length) w ∧ TOn ρ (Hp ops.length).gen w (fun _ => True) (T ops.length) a ∧ Ext ρ0 H w0 ρ (Hp ops.length) w := by
  have hH : Hp ops.length = Hp e := D.same_between I.le (Nat.le_refl _) fun i h1 h2 => by
    cases hch : chn ops i with
    | false => rfl
    | true => have := (I.chain i h2 hch).1 (hall i h2); omega
  rw [hH]
  refine ⟨I.rel, ⟨by rw [I.asize, D.lenT _ (Nat.le_refl _)], fun d _ hd => ?_⟩, I.ext⟩
  rw [D.lenT _ (Nat.le_refl _)] at hd
  obtain ⟨t1, t2⟩ := I.tmps d hd
  obtain ⟨s1, s2⟩ := D.tspec _ (Nat.le_refl _) d hd
  by_cases hex : ∃ (i : Nat) (oi : Oper), ops[i]? = some oi ∧ oi.dst = some d
  · obtain ⟨i, oi, h1, h2⟩ := hex
    have h3 := s1 i oi h1 h2 (.inr (lt_of_getElem? h1))
    have : (T ops.length).getD d undefA = val i := by simp [List.getD, h3]
    rw [this]; exact t1 i oi h1 (hall i (lt_of_getElem? h1)) h2
  · have h3 := s2 fun i oi h1 _ h2 => hex ⟨i, oi, h1, h2⟩
    have : (T ops.length).getD d undefA = t.getD d undefA := by simp only [List.getD, h3]
    rw [this]; exact t2 fun i oi h1 _ h2 => hex ⟨i, oi, h1, h2⟩
theorem any_wp (hC : Sound P C) (D : Draw P C ops t H t0 H0 T Hp val nm) {Q : Exit → Act → World → Prop}
    (hQ : ∀ a' ρ' w', Rel ρ' (Hp ops.length) w' → TOn ρ' (Hp ops.length).gen w' (fun _ => True) (T ops.length) a' → Ext ρ0 H w0 ρ' (Hp ops.length) w' → a'.defers = a0.defers → Q .normal a' w') :
    ∀ (fuel : Nat) (listed : Array Bool) (a : Act) (w : World) (e : Nat) (ρ : Ren), unl listed.toList ≤ fuel → Inv ops t Hp val nm H ρ0 w0 a0 listed a w e ρ → wpAny P .any ops.toArray Q fuel listed a w := by
  have fin : ∀ (listed : Array Bool) (a : Act) (w : World) (e : Nat) (ρ : Ren), Inv ops t Hp val nm H ρ0 w0 a0 listed a w e ρ → Region.ready .any ops.toArray listed = [] → Q .normal a w := by
    intro listed a w e ρ I hnil
    have hall : ∀ i, i < ops.length → Li listed i := fun i hi => by
      by_cases hl : Li listed i
      · exact hl
      · exact absurd hnil (ready_exists D.facts I.size hi hl)
    obtain ⟨h1, h2, h3⟩ := inv_end D I hall
    exact hQ a ρ w h1 h2 h3 I.defers
  intro fuel
  induction fuel with
  | zero =>
    intro listed a w e ρ hu I
    have hnil : Region.ready .any ops.toArray listed = [] := by
      cases hr : Region.ready .any ops.toArray listed with
      | nil => rfl
      | cons j js =>
        obtain ⟨o, ho, hnl, _⟩ := ready_facts I.size I.down (j := j) (by rw [hr]; simp)
        have hj : j < listed.size := by rw [I.size]; exact lt_of_getElem? ho
        exact absurd ((li_get hj).2 (unl_zero _ (by omega) j (by simpa using hj))) hnl
    exact ⟨hnil, fin listed a w e ρ I hnil⟩
  | succ fuel ih =>
    intro listed a w e ρ hu I
    refine ⟨fin listed a w e ρ I, fun j hj => inv_step hC D I hj fun a' w' e' ρ' I' => ih _ a' w' e' ρ' ?_ I'⟩
    obtain ⟨o, ho, hnl, _⟩ := ready_facts I.size I.down hj
    have hjs : j < listed.size := by rw [I.size]; exact lt_of_getElem? ho
    have := unl_set _ j ((not_li_get hjs).1 hnl)
    rw [Array.toList_setIfInBounds]
    omega
theorem unl_replicate (n : Nat) : unl (List.replicate n false) = n := by
  induction n with
  | zero => rfl
  | succ n ih => simp [List.replicate_succ, unl, ih]
theorem draw_wp (hC : Sound P C) (hKC : KeepsC C) (hm : P.follows .mixedOrders = true) {id : Nat} {t' : Tmps} {H' : AHeap} (h : drawA P C ops t H = some (t', H')) (R : Rel ρ H w) (TR : TOn ρ H.gen w (fun _ => True) t a) {Q : Exit → Act → World → Prop}
    (hQ : ∀ a' ρ' w', Rel ρ' H' w' → TOn ρ' H'.gen w' (fun _ => True) t' a' → Ext ρ H w ρ' H' w' → a'.defers = a.defers → Q .normal a' w') : (Code.region id ops.toArray true).wp P Q a w := by
  unfold drawA at h
  split at h <;> first | (cases h; done) | skip
  rename_i hok
  split at h <;> first | (cases h; done) | skip
  rename_i t0 H0 hcr
  obtain ⟨hrun, hagr⟩ : drawRun P C ops (restIdx ops) t0 H0 = some (t', H') ∧ ∀ p ∈ effPairs ops, agree P C ops t0 H0 p := by
    split at h
    · rename_i he; rw [he]; exact ⟨h, by simp⟩
    · split at h <;> first | (cases h; done) | skip
      rename_i ha
      exact ⟨h, ha⟩
  have F := drawOk_facts hok
  have hmem : ∀ j, j ∈ constIdx ops ↔ j < ops.length ∧ cst ops j = true := fun j => by simp [constIdx, List.mem_filter, List.mem_range]
  obtain ⟨hf, hg, hlen, nm, vl, h1, h2, h3⟩ := constRun_spec (constIdx ops) t H t0 H0 (List.nodup_range.filter _) (fun j hj => ((hmem j).1 hj).2)
    (fun i _ j _ oi oj d a1 a2 a3 a4 => F.dsts i j oi oj d a1 a2 a3 a4) hcr
  obtain ⟨T, Hp, val, S, hend, hval⟩ := drawStates hrun vl
  obtain ⟨hgen, RH0, EH0⟩ := fresh_rel R hf hg
  obtain ⟨ρ1, w1, a1, g1, g2⟩ := const_ghost hC _ _ _ _ _ ρ w a hcr R TR
  have D : Draw P C ops t H t0 H0 T Hp val nm := {
    facts := F
    S := S
    names := fun j hj hc => by
      obtain ⟨o, q1, q2, q3, q4, q5⟩ := h1 j ((hmem j).2 ⟨hj, hc⟩)
      exact ⟨o, q1, q2, q3, by rw [hval j hc]; exact q4, fun d hd hl => by rw [hval j hc]; exact q5 d hd hl⟩
    inj := fun i j hi hj ci cj e => h2 i ((hmem i).2 ⟨hi, ci⟩) j ((hmem j).2 ⟨hj, cj⟩) e
    rest := fun d hd => h3 d fun j hj o ho => hd j ((hmem j).1 hj).2 o ho
    len := hlen
    fresh := hf
    gen0 := hg
    agr := hagr
    ghost := fun p hp d => by
      obtain ⟨ρ2, w2, a2, r1, r2⟩ := rest_ghost hC S g1 g2 p hp
      exact RV.nv r1.out _ _ (r2.any d trivial)
    keeps := hKC }
  have e1 : T ops.length = t' := by rw [← Prod.mk.inj hend |>.1]
  have e2 : Hp ops.length = H' := by rw [← Prod.mk.inj hend |>.2]
  refine wp_region_any hm ?_
  have hli : ∀ j, ¬ Li (Array.replicate ops.toArray.size false) j := fun j => by
    unfold Li
    simp [Array.getD]
  refine any_wp hC D (a0 := a) (fun a' ρ' w' q1 q2 q3 q4 => hQ a' ρ' w' (by rw [← e2]; exact q1) (by rw [← e1, ← e2]; exact q2) (by rw [← e2]; exact q3) q4) ops.toArray.size _ a w.drew 0 ρ (by simp [unl_replicate]) ?_
  refine ⟨by simp, fun j o _ hl => absurd hl (hli j), Nat.zero_le _, fun i _ _ => ⟨fun hl => absurd hl (hli i), fun h => by omega⟩, by rw [S.zero.2]; exact RH0.drew, fun k hk hc _ => ?_, ?_, TR.size, fun d hd => ⟨fun j o _ hl => absurd hl (hli j), fun _ => ?_⟩, rfl⟩
  · obtain ⟨_, _, q1, _⟩ := D.names k hk hc
    exact (R.out _ q1).1
  · rw [S.zero.2]; exact EH0.trans (Ext.drew ρ H0 w)
  · rw [S.zero.2, hgen]
    exact RV.mono (Ext.drew ρ H w).toMono _ _ (TR.get d trivial hd)
end

end Go.Proofs.YtjmldnpdfnklcaaDoor

namespace Go.Proofs.YtjmldnpdfnklcaaDoor

section
variable {ρ ρ1 : Ren} {G : Nat → Nat} {H1 : AHeap} {w1 : World} {n : Nat}
theorem mapM_RVs {f : AV → Option AV} (hf : ∀ x x' cv, f x = some x' → RV ρ1 H1.gen w1 x cv → RV ρ G w1 x' cv) : ∀ (xs xs' : List AV) (l : List Value), xs.mapM f = some xs' → RVs ρ1 H1.gen w1 xs l → RVs ρ G w1 xs' l
  | [], xs', l, h, hl => by
    simp at h
    subst h
    simpa only [RVs] using hl
  | x :: xs, xs', l, h, hl => by
    rw [List.mapM_cons] at h
    cases h1 : f x with
    | none => rw [h1] at h; cases h
    | some y =>
      rw [h1] at h
      cases h2 : xs.mapM f with
      | none => rw [h2] at h; cases h
      | some ys =>
        rw [h2] at h
        simp only [Option.bind_eq_bind, Option.bind_some, Option.pure_def, Option.some.injEq] at h
        subst h
        simp only [RVs] at hl ⊢
        obtain ⟨v, vs, rfl, a, b⟩ := hl
        exact ⟨v, vs, rfl, hf _ _ _ h1 a, mapM_RVs hf xs ys vs h2 b⟩
theorem mapM_RVc {f : AV → Option AV} (hf : ∀ x x' cv, f x = some x' → RV ρ1 H1.gen w1 x cv → RV ρ G w1 x' cv) : ∀ (xs xs' : List AV) (b o : Nat), xs.mapM f = some xs' → RVc ρ1 H1.gen w1 xs b o → RVc ρ G w1 xs' b o
  | [], xs', b, o, h, hl => by
    simp at h
    subst h
    simp only [RVc]
  | x :: xs, xs', b, o, h, hl => by
    rw [List.mapM_cons] at h
    cases h1 : f x with
    | none => rw [h1] at h; cases h
    | some y =>
      rw [h1] at h
      cases h2 : xs.mapM f with
      | none => rw [h2] at h; cases h
      | some ys =>
        rw [h2] at h
        simp only [Option.bind_eq_bind, Option.bind_some, Option.pure_def, Option.some.injEq] at h
        subst h
        simp only [RVc] at hl ⊢
        obtain ⟨⟨v, e, a⟩, c⟩ := hl
        exact ⟨⟨v, e, hf _ _ _ h1 a⟩, mapM_RVc hf xs ys b (o + 1) h2 c⟩
theorem mapM_length {f : AV → Option AV} : ∀ (xs xs' : List AV), xs.mapM f = some xs' → xs'.length = xs.length
  | [], xs', h => by simp at h; subst h; rfl
  | x :: xs, xs', h => by
    rw [List.mapM_cons] at h
    cases h1 : f x with
    | none => rw [h1] at h; cases h
    | some y =>
      rw [h1] at h
      cases h2 : xs.mapM f with
      | none => rw [h2] at h; cases h
      | some ys =>
        rw [h2] at h
        simp only [Option.bind_eq_bind, Option.bind_some, Option.pure_def, Option.some.injEq] at h
        subst h
        simp [mapM_length xs ys h2]
theorem freeze_ok (R1 : Rel ρ1 H1 w1) (hlt : ∀ r, r < n → ρ r = ρ1 r ∧ G r = H1.gen r) (hge : ∀ r, n ≤ r → ρ r = none) :
    ∀ (d : Nat) (x x' : AV) (cv : Value), freezeA H1 n d x = some x' → RV ρ1 H1.gen w1 x cv → RV ρ G w1 x' cv := by
  have himm : ∀ b, Imm ρ1 b → Imm ρ b := by
    intro b hi r sh hr
    rcases Nat.lt_or_ge r n with h | h
    · rw [(hlt r h).1] at hr; exact hi r sh hr
    · rw [hge r h] at hr; cases hr
  intro d
  induction d with
  | zero => intro x x' cv h; cases h
  | succ d ih =>
    intro x x' cv h hv
    cases x with
    | s v => simp only [freezeA, Option.some.injEq] at h; subst h; simpa only [RV] using hv
    | ref r g off =>
      simp only [freezeA] at h
      split at h <;> first | (cases h; done) | skip
      rename_i hr
      simp only [Option.some.injEq] at h
      subst h
      obtain ⟨e1, e2⟩ := hlt r hr
      simp only [RV] at hv ⊢
      rw [e1, e2]; exact hv
    | mp r =>
      simp only [freezeA] at h
      split at h <;> first | (cases h; done) | skip
      rename_i hr
      simp only [Option.some.injEq] at h
      subst h
      obtain ⟨e1, e2⟩ := hlt r hr
      simp only [RV] at hv ⊢
      rw [e1, e2]; exact hv
    | sl r g off esz len cap ex =>
      simp only [freezeA] at h
      split at h
      · rename_i hr
        simp only [Option.some.injEq] at h
        subst h
        obtain ⟨e1, e2⟩ := hlt r hr
        simp only [RV] at hv ⊢
        rw [e1, e2]; exact hv
      · rename_i hr
        split at h <;> first | (cases h; done) | skip
        rename_i cells hcl
        cases hm : cells.mapM (freezeA H1 n d) with
        | none => rw [hm] at h; cases h
        | some l =>
          rw [hm] at h
          simp only [Option.map_some, Option.some.injEq] at h
          subst h
          simp only [sliceCells] at hcl
          split at hcl <;> first | (cases hcl; done) | skip
          rename_i g' ty all ho
          split at hcl <;> first | (cases hcl; done) | skip
          rename_i hc
          obtain ⟨rfl, hle⟩ := hc
          simp only [Option.some.injEq] at hcl
          simp only [RV] at hv ⊢
          obtain ⟨b, o, c, rfl, q1, q2, q3, q4, q5⟩ := hv
          obtain ⟨sh, e, k, hr1, hoo, hsh, hcap⟩ := q5 (by simp [AHeap.gen, ho, AObj.gen])
          have hobj := R1.obj r b sh hr1
          simp only [RObj, ho] at hobj
          obtain ⟨cs, e', hb, hz, hcc, _⟩ := hobj
          have hll : cells.length = len * esz := by rw [← hcl]; simp; omega
          refine ⟨b, o, c, rfl, by omega, by rw [mapM_length _ _ hm, hll], lt_of_heap hb, fun r' sh' hr' => ?_, ?_⟩
          · rcases Nat.lt_or_ge r' n with h' | h'
            · rw [(hlt r' h').1] at hr'
              have := R1.inj r' r b sh' sh hr' hr1
              omega
            · rw [hge r' h'] at hr'; cases hr'
          · refine mapM_RVc ih cells l b o hm ?_
            by_cases h0 : c = 0
            · have : len = 0 := by omega
              subst this
              rw [← hcl]; simp [RVc]
            · rw [hoo (by omega), ← hcl]
              exact RVc_take _ (RVc_drop off hcc)
    | ip cells =>
      simp only [freezeA] at h
      cases hm : cells.mapM (freezeA H1 n d) with
      | none => rw [hm] at h; cases h
      | some l =>
        rw [hm] at h
        simp only [Option.map_some, Option.some.injEq] at h
        subst h
        simp only [RV] at hv ⊢
        obtain ⟨b, o, e, h1, h2, h3⟩ := hv
        exact ⟨b, o, e, h1, himm b h2, mapM_RVc ih cells l b o hm h3⟩
    | vs k esz cells =>
      simp only [freezeA] at h
      cases hm : cells.mapM (freezeA H1 n d) with
      | none => rw [hm] at h; cases h
      | some l =>
        rw [hm] at h
        simp only [Option.map_some, Option.some.injEq] at h
        subst h
        simp only [RV] at hv ⊢
        obtain ⟨b, o, c, e, h0, h00, h1, h2, h3⟩ := hv
        exact ⟨b, o, c, e, h0, by rw [mapM_length _ _ hm]; exact h00, h1, himm b h2, mapM_RVc ih cells l b o hm h3⟩
    | fn f a c =>
      simp only [freezeA] at h
      split at h <;> first | (cases h; done) | skip
      rename_i a' c' ha hc
      simp only [Option.some.injEq] at h
      subst h
      simp only [RV] at hv ⊢
      obtain ⟨a0, c0, e, h1, h2⟩ := hv
      exact ⟨a0, c0, e, mapM_RVs ih _ _ _ ha h1, mapM_RVs ih _ _ _ hc h2⟩
    | agg cells =>
      simp only [freezeA] at h
      cases hm : cells.mapM (freezeA H1 n d) with
      | none => rw [hm] at h; cases h
      | some l =>
        rw [hm] at h
        simp only [Option.map_some, Option.some.injEq] at h
        subst h
        simp only [RV] at hv ⊢
        obtain ⟨cs, e, h1⟩ := hv
        exact ⟨cs, e, mapM_RVs ih _ _ _ hm h1⟩
    | tup cells =>
      simp only [freezeA] at h
      cases hm : cells.mapM (freezeA H1 n d) with
      | none => rw [hm] at h; cases h
      | some l =>
        rw [hm] at h
        simp only [Option.map_some, Option.some.injEq] at h
        subst h
        simp only [RV] at hv ⊢
        obtain ⟨cs, e, h1⟩ := hv
        exact ⟨cs, e, mapM_RVs ih _ _ _ hm h1⟩
end
/-- A call that is carried out on a guarded heap: behind it, the heap is as it was. -/
theorem pure_back {ρ ρ1 : Ren} {H H1 : AHeap} {w w1 : World} (R : Rel ρ H w) (K : Keeps H.guard H1) (R1 : Rel ρ1 H1 w1) (E : Ext ρ H w ρ1 H1 w1) {d : Nat} {x x' : AV} {cv : Value}
    (hf : freezeA H1 H.next d x = some x') (hv : RV ρ1 H1.gen w1 x cv) : Rel ρ H w1 ∧ RV ρ H.gen w1 x' cv ∧ Ext ρ H w ρ H w1 := by
  have hget : ∀ r, r < H.next → H1.get r = H.get r := fun r hr => K.get r hr hr
  have hgen : ∀ r, r < H.next → H1.gen r = H.gen r := fun r hr => by simp only [AHeap.gen, hget r hr]
  have hlt : ∀ r, r < H.next → ρ r = ρ1 r ∧ H.gen r = H1.gen r := by
    intro r hr
    refine ⟨?_, (hgen r hr).symm⟩
    cases h : ρ r with
    | none => exact (E.kept r hr h).symm
    | some x => exact (E.same r x h (hgen r hr)).symm
  have hge : ∀ r, H.next ≤ r → ρ r = none := fun r hr => (R.out r hr).1
  have hfr := freeze_ok (G := H.gen) R1 hlt hge d x x' cv hf hv
  have hE : Ext ρ H w ρ H w1 := ⟨Nat.le_refl _, fun _ => Nat.le_refl _, fun _ _ h _ => h, fun _ _ h => h, fun _ _ sh h => .inr ⟨sh, h⟩, E.size, E.frame, E.shape, E.os, E.tape, E.output⟩
  refine ⟨⟨R.out, fun r b sh h => ?_, R.inj, R.gl.ext hE⟩, hfr, hE⟩
  have hr := R.lt h
  have h1 := R1.obj r b sh (by rw [← (hlt r hr).1]; exact h)
  rw [hget r hr] at h1
  have h0 := R.obj r b sh h
  -- the object as it was, in the new world
  have hB : Back H.next ρ1 H1.gen ρ H.gen := ⟨fun r hr => (hgen r hr).symm, fun r hr => .inr (hlt r hr).1, fun r x hx => by
    have := R.lt (b := x.1) (sh := x.2) hx
    rw [← (hlt r this).1]; exact hx⟩
  unfold RObj at h1 h0 ⊢
  cases ho : H.get r with
  | blk g ty cells =>
    rw [ho] at h1 h0
    obtain ⟨cs, e, q1, q2, q3⟩ := h1
    obtain ⟨_, _, _, _, z3, _⟩ := h0
    exact ⟨cs, e, q1, q2, RVc.back hB R.out cells b sh b sh z3 q3.1, q3.2⟩
  | map k es =>
    rw [ho] at h1 h0
    obtain ⟨ces, clock, q1, q2, q3⟩ := h1
    obtain ⟨_, _, _, _, z3, _⟩ := h0
    exact ⟨ces, clock, q1, q2, RVm.back hB R.out es _ _ z3 q3.1, q3.2⟩

end Go.Proofs.YtjmldnpdfnklcaaDoor

namespace Go.Proofs.YtjmldnpdfnklcaaDoor

inductive Ex where
  | normal
  | exit (id : Nat)
  | ret
def Ex.to : Ex → Exit
  | .normal => .normal
  | .exit id => .exit id
  | .ret => .ret
abbrev Res := Option (Ex × Tmps × AHeap)
abbrev Run := Tmps → AHeap → Res
def thenA (r : Res) (k : Run) : Res :=
  match r with
  | some (.normal, t, H) => k t H
  | some (.exit i, t, H) => some (.exit i, t, H)
  | some (.ret, t, H) => some (.ret, t, H)
  | none => none
def blockA (id : Nat) (r : Res) : Res :=
  match r with
  | some (.exit i, t, H) => if i = id then some (.normal, t, H) else some (.exit i, t, H)
  | some (.normal, t, H) => some (.normal, t, H)
  | some (.ret, t, H) => some (.ret, t, H)
  | none => none
def iterA (f : Run) : Nat → Run
  | 0, _, _ => none
  | n + 1, t, H => thenA (f t H) (iterA f n)
open Classical in
noncomputable def supA {α : Type} (g : Nat → Option α) : Option α := if h : ∃ n, (g n).isSome = true then g (Classical.choose h) else none
noncomputable def loopA (f : Run) : Run := fun t H => supA fun n => iterA f n t H
noncomputable def execA (P : Program) (C : Callee) : Code → Run
  | .skip => fun t H => some (.normal, t, H)
  | .region _ ops draw => fun t H => match (if draw then drawA P C ops.toList t H else opsA P C ops.toList ops.toList t H) with
    | some (t', H') => some (.normal, t', H')
    | none => none
  | .seq a b => fun t H => thenA (execA P C a t H) (execA P C b)
  | .cond c a b => fun t H => match evalA t c with
    | .s (.bool true) => execA P C a t H
    | .s (.bool false) => execA P C b t H
    | _ => none
  | .block id c => fun t H => blockA id (execA P C c t H)
  | .loop c => loopA (execA P C c)
  | .exit id => fun t H => some (.exit id, t, H)
  | .ret => fun t H => some (.ret, t, H)
  | _ => fun _ _ => none
def resA (P : Program) (t : Tmps) (H : AHeap) : ResultVar → Option AV
  | .tmp d => some (t.getD d undefA)
  | .cell a ty => (loadA P ty (t.getD a undefA) H).map (·.1)
def resultsA (P : Program) (rs : List ResultVar) (t : Tmps) (H : AHeap) : Option AV :=
  match rs.mapM (resA P t H) with
  | some [x] => some x
  | some xs => some (.tup xs)
  | none => none
noncomputable def runF (P : Program) (C : Callee) (f : FuncId) (args : List AV) : AM AV := fun H =>
  match P.funcs[f]? with
  | some fn => match fn.body with
    | some c => match execA P C c (args ++ List.replicate (fn.ntmps - args.length) undefA) H with
      | some (.exit _, _, _) => none
      | some (_, t, H') => (resultsA P fn.results.toList t H').map fun v => (v, H')
      | none => none
    | none => none
  | none => none
/-- What is known of the program's functions: those that leave the memory as it is; those that are not run. -/
structure Pol where
  pure : FuncId → Bool
  prim : FuncId → Option (List AV → AM AV)
noncomputable def callF (P : Program) (L : Pol) (C : Callee) : Callee := fun f args H =>
  match L.prim f with
  | some p => p args H
  | none =>
    if L.pure f then
      match runF P C f args H.guard with
      | some (v, H1) => (freezeA H1 H.next 9 v).map fun v' => (v', H)
      | none => none
    else runF P C f args H
theorem supA_some {α : Type} {g : Nat → Option α} {r : α} (h : supA g = some r) : ∃ n, g n = some r := by
  unfold supA at h
  split at h
  · exact ⟨_, h⟩
  · cases h
theorem mono_add {α : Type} {g : Nat → Option α} (hg : ∀ n r, g n = some r → g (n + 1) = some r) {n : Nat} {r : α} (h : g n = some r) : ∀ k, g (n + k) = some r := by
  intro k
  induction k with
  | zero => exact h
  | succ k ih => exact hg _ _ ih
theorem mono_le {α : Type} {g : Nat → Option α} (hg : ∀ n r, g n = some r → g (n + 1) = some r) {n m : Nat} {r : α} (h : g n = some r) (hm : n ≤ m) : g m = some r := by
  have := mono_add hg h (m - n)
  rwa [show n + (m - n) = m by omega] at this
theorem supA_eq {α : Type} {g : Nat → Option α} (hg : ∀ n r, g n = some r → g (n + 1) = some r) {n : Nat} {r : α} (h : g n = some r) : supA g = some r := by
  unfold supA
  have hex : ∃ n, (g n).isSome = true := ⟨n, by rw [h]; rfl⟩
  rw [dif_pos hex]
  have hc := Classical.choose_spec hex
  cases hx : g (Classical.choose hex) with
  | none => rw [hx] at hc; cases hc
  | some r' =>
    rcases Nat.le_total n (Classical.choose hex) with hl | hl
    · rw [mono_le hg h hl] at hx; exact hx.symm
    · rw [mono_le hg hx hl] at h; exact h
theorem iterA_mono {f : Run} : ∀ n t H r, iterA f n t H = some r → iterA f (n + 1) t H = some r := by
  intro n
  induction n with
  | zero => intro t H r h; cases h
  | succ n ih =>
    intro t H r h
    show thenA (f t H) (iterA f (n + 1)) = some r
    change thenA (f t H) (iterA f n) = some r at h
    unfold thenA at h ⊢
    split at h
    · exact ih _ _ _ h
    · exact h
    · exact h
    · cases h
section
variable {P : Program} {C : Callee} {ρ : Ren} {H H' : AHeap} {w : World} {t t' : Tmps} {a : Act}
theorem opsA_cons {ops rest : List Oper} {o : Oper} : opsA P C ops (o :: rest) t H = match stepA P C ops false o t H with
    | some (v, H') => opsA P C ops rest (putA t o.dst v) H'
    | none => none := by
  simp only [opsA, stepA]
  cases wantedA ops t o with
  | none => rfl
  | some b =>
    cases b
    · rfl
    · cases opA P C t o H <;> rfl
theorem ops_wp (hC : Sound P C) {ops : List Oper} {Q : Exit → Act → World → Prop} : ∀ (m k : Nat) (t : Tmps) (H : AHeap) (a : Act) (w : World) (ρ : Ren), m + k = ops.length → opsA P C ops (ops.drop k) t H = some (t', H') → Rel ρ H w → TOn ρ H.gen w (fun _ => True) t a →
    (∀ a' ρ' w', Rel ρ' H' w' → TOn ρ' H'.gen w' (fun _ => True) t' a' → Ext ρ H w ρ' H' w' → a'.defers = a.defers → Q .normal a' w') → wpOps P ops.toArray Q (List.range' k m) a w := by
  intro m
  induction m with
  | zero =>
    intro k t H a w ρ hk h R T hQ
    rw [List.drop_eq_nil_of_le (by omega)] at h
    simp only [opsA, Option.some.injEq, Prod.mk.injEq] at h
    obtain ⟨rfl, rfl⟩ := h
    exact hQ a ρ w R T (Ext.refl _ _ _) rfl
  | succ m ih =>
    intro k t H a w ρ hk h R T hQ
    have hlt : k < ops.length := by omega
    have ho : ops[k]? = some (ops[k]'hlt) := List.getElem?_eq_getElem hlt
    rw [List.drop_eq_getElem_cons hlt, opsA_cons] at h
    cases hs : stepA P C ops false (ops[k]'hlt) t H with
    | none => rw [hs] at h; cases h
    | some r =>
      obtain ⟨v, H1⟩ := r
      rw [hs] at h
      simp only at h
      rw [List.range'_succ, wpOps_cons]
      refine step_wp hC hs R (T.sub fun _ _ => trivial) ho fun cv ρ' w' r1 r2 r3 => ?_
      refine ih (k + 1) _ _ _ w' ρ' (by omega) h r1 ((T.keep r3).put _ r2) fun a' ρ2 w2 q1 q2 q3 q4 => hQ a' ρ2 w2 q1 q2 (r3.trans q3) (q4.trans ?_)
      cases (ops[k]'hlt).dst <;> rfl
abbrev Post (ρ : Ren) (H : AHeap) (w : World) (a : Act) (t' : Tmps) (H' : AHeap) (Q : Act → World → Prop) : Prop :=
  ∀ a' ρ' w', Rel ρ' H' w' → TOn ρ' H'.gen w' (fun _ => True) t' a' → Ext ρ H w ρ' H' w' → a'.defers = a.defers → Q a' w'
/-- What a run of the interpreter promises of the code. -/
def CodeSound (P : Program) (c : Code) (f : Run) : Prop :=
  ∀ t H e t' H', f t H = some (e, t', H') → ∀ (ρ : Ren) (w : World) (a : Act), Rel ρ H w → TOn ρ H.gen w (fun _ => True) t a → ∀ Q : Exit → Act → World → Prop, Post ρ H w a t' H' (Q e.to) → c.wp P Q a w
theorem then_sound {c d : Code} {f g : Run} (hf : CodeSound P c f) (hg : ∀ t H e t' H', g t H = some (e, t', H') → ∀ (ρ : Ren) (w : World) (a : Act), Rel ρ H w → TOn ρ H.gen w (fun _ => True) t a → ∀ Q : Exit → Act → World → Prop, Post ρ H w a t' H' (Q e.to) → d.wp P Q a w) :
    CodeSound P (.seq c d) fun t H => thenA (f t H) g := by
  intro t H e t' H' h ρ w a R T Q hQ
  refine wp_seq ?_
  change thenA (f t H) g = _ at h
  unfold thenA at h
  split at h
  · rename_i t1 H1 hf1
    refine hf t H _ t1 H1 hf1 ρ w a R T _ fun a' ρ' w' r1 r2 r3 r4 => ?_
    exact hg t1 H1 e t' H' h ρ' w' a' r1 r2 Q fun a2 ρ2 w2 q1 q2 q3 q4 => hQ a2 ρ2 w2 q1 q2 (r3.trans q3) (q4.trans r4)
  · rename_i i t1 H1 hf1
    simp only [Option.some.injEq, Prod.mk.injEq] at h
    obtain ⟨rfl, rfl, rfl⟩ := h
    exact hf t H _ t1 H1 hf1 ρ w a R T _ hQ
  · rename_i t1 H1 hf1
    simp only [Option.some.injEq, Prod.mk.injEq] at h
    obtain ⟨rfl, rfl, rfl⟩ := h
    exact hf t H _ t1 H1 hf1 ρ w a R T _ hQ
  · cases h
open Classical in
theorem loop_sound {c : Code} {f : Run} (hf : CodeSound P c f) : CodeSound P (.loop c) (loopA f) := by
  intro t H e t' H' h ρ w a R T Q hQ
  obtain ⟨n, hn⟩ := supA_some h
  let I : Nat → Act → World → Prop := fun n a1 w1 => ∃ t1 H1 ρ1, iterA f n t1 H1 = some (e, t', H') ∧ Rel ρ1 H1 w1 ∧ TOn ρ1 H1.gen w1 (fun _ => True) t1 a1 ∧ Ext ρ H w ρ1 H1 w1 ∧ a1.defers = a.defers
  let μ : Act → World → Nat := fun a1 w1 => if hx : ∃ n, I n a1 w1 ∧ ∀ i, i < n → ¬ I i a1 w1 then Classical.choose hx else 0
  have hμ : ∀ n a1 w1, I n a1 w1 → I (μ a1 w1) a1 w1 ∧ μ a1 w1 ≤ n := by
    intro n a1 w1 hi
    have hx : ∃ n, I n a1 w1 ∧ ∀ i, i < n → ¬ I i a1 w1 := least (p := fun n => I n a1 w1) n hi
    have hsp := Classical.choose_spec hx
    have hdef : μ a1 w1 = Classical.choose hx := dif_pos hx
    rw [hdef]
    refine ⟨hsp.1, ?_⟩
    rcases Nat.lt_or_ge n (Classical.choose hx) with hl | hl
    · exact absurd hi (hsp.2 n hl)
    · exact hl
  refine wp_loop (fun a1 w1 => ∃ n, I n a1 w1) μ ⟨n, t, H, ρ, hn, R, T, Ext.refl _ _ _, rfl⟩ fun a1 w1 ⟨n1, hi⟩ => ?_
  obtain ⟨⟨t1, H1, ρ1, h1, R1, T1, E1, D1⟩, _⟩ := hμ n1 a1 w1 hi
  cases hm : μ a1 w1 with
  | zero => rw [hm] at h1; cases h1
  | succ m =>
    rw [hm] at h1
    change thenA (f t1 H1) (iterA f m) = _ at h1
    unfold thenA at h1
    split at h1
    · rename_i t2 H2 hf1
      refine hf t1 H1 _ t2 H2 hf1 ρ1 w1 a1 R1 T1 _ fun a2 ρ2 w2 r1 r2 r3 r4 => ?_
      have hi2 : I m a2 w2 := ⟨t2, H2, ρ2, h1, r1, r2, E1.trans r3, r4.trans D1⟩
      exact ⟨⟨m, hi2⟩, by have := (hμ m a2 w2 hi2).2; omega⟩
    · rename_i i t2 H2 hf1
      simp only [Option.some.injEq, Prod.mk.injEq] at h1
      obtain ⟨rfl, rfl, rfl⟩ := h1
      exact hf t1 H1 _ _ _ hf1 ρ1 w1 a1 R1 T1 _ fun a2 ρ2 w2 r1 r2 r3 r4 => hQ a2 ρ2 w2 r1 r2 (E1.trans r3) (r4.trans D1)
    · rename_i t2 H2 hf1
      simp only [Option.some.injEq, Prod.mk.injEq] at h1
      obtain ⟨rfl, rfl, rfl⟩ := h1
      exact hf t1 H1 _ _ _ hf1 ρ1 w1 a1 R1 T1 _ fun a2 ρ2 w2 r1 r2 r3 r4 => hQ a2 ρ2 w2 r1 r2 (E1.trans r3) (r4.trans D1)
    · cases h1
theorem exec_sound (hC : Sound P C) (hK : KeepsC C) (hm : P.follows .mixedOrders = true) : ∀ c : Code, CodeSound P c (execA P C c) := by
  intro c
  induction c with
  | skip =>
    intro t H e t' H' h ρ w a R T Q hQ
    simp only [execA, Option.some.injEq, Prod.mk.injEq] at h
    obtain ⟨rfl, rfl, rfl⟩ := h
    exact wp_skip (hQ a ρ w R T (Ext.refl _ _ _) rfl)
  | region id ops draw =>
    intro t H e t' H' h ρ w a R T Q hQ
    simp only [execA] at h
    cases draw with
    | true =>
      simp only [if_true] at h
      split at h <;> first | (cases h; done) | skip
      rename_i t1 H1 hd
      simp only [Option.some.injEq, Prod.mk.injEq] at h
      obtain ⟨rfl, rfl, rfl⟩ := h
      have := draw_wp hC hK hm (id := id) hd R T (Q := Q) hQ
      simpa using this
    | false =>
      simp only [Bool.false_eq_true, if_false] at h
      split at h <;> first | (cases h; done) | skip
      rename_i t1 H1 hd
      simp only [Option.some.injEq, Prod.mk.injEq] at h
      obtain ⟨rfl, rfl, rfl⟩ := h
      refine wp_region ?_
      have := ops_wp hC (ops := ops.toList) (Q := Q) ops.toList.length 0 t H a w ρ (by simp) (by simpa using hd) R T hQ
      rw [List.range_eq_range']
      simpa using this
  | seq x y ihx ihy => exact then_sound ihx ihy
  | cond c x y ihx ihy =>
    intro t H e t' H' h ρ w a R T Q hQ
    simp only [execA] at h
    have hev : RV ρ H.gen w (evalA t c) (a.eval c) := by
      cases c with
      | tmp d => exact T.any d trivial
      | const v => simp [evalA, Act.eval, RV]
      | global g => simp [evalA, Act.eval, RV]
      | func f => simp [evalA, Act.eval, RV, RVs]
    split at h
    · rename_i hb
      rw [hb] at hev
      simp only [RV] at hev
      exact wp_cond_true hev (ihx t H e t' H' h ρ w a R T Q hQ)
    · rename_i hb
      rw [hb] at hev
      simp only [RV] at hev
      exact wp_cond_false hev (ihy t H e t' H' h ρ w a R T Q hQ)
    · cases h
  | block id x ih =>
    intro t H e t' H' h ρ w a R T Q hQ
    simp only [execA] at h
    refine wp_block ?_
    unfold blockA at h
    split at h
    · rename_i i t1 H1 hf
      refine ih t H _ t1 H1 hf ρ w a R T _ fun a2 ρ2 w2 r1 r2 r3 r4 => ?_
      simp only [Ex.to, Exit.inBlock]
      split at h
      · rename_i hid
        simp only [Option.some.injEq, Prod.mk.injEq] at h
        obtain ⟨rfl, rfl, rfl⟩ := h
        rw [if_pos hid]
        exact hQ a2 ρ2 w2 r1 r2 r3 r4
      · rename_i hid
        simp only [Option.some.injEq, Prod.mk.injEq] at h
        obtain ⟨rfl, rfl, rfl⟩ := h
        rw [if_neg hid]
        exact hQ a2 ρ2 w2 r1 r2 r3 r4
    · rename_i t1 H1 hf
      simp only [Option.some.injEq, Prod.mk.injEq] at h
      obtain ⟨rfl, rfl, rfl⟩ := h
      exact ih t H _ t1 H1 hf ρ w a R T _ hQ
    · rename_i t1 H1 hf
      simp only [Option.some.injEq, Prod.mk.injEq] at h
      obtain ⟨rfl, rfl, rfl⟩ := h
      exact ih t H _ t1 H1 hf ρ w a R T _ hQ
    · cases h
  | loop x ih => exact loop_sound ih
  | exit id =>
    intro t H e t' H' h ρ w a R T Q hQ
    simp only [execA, Option.some.injEq, Prod.mk.injEq] at h
    obtain ⟨rfl, rfl, rfl⟩ := h
    exact wp_exit (hQ a ρ w R T (Ext.refl _ _ _) rfl)
  | ret =>
    intro t H e t' H' h ρ w a R T Q hQ
    simp only [execA, Option.some.injEq, Prod.mk.injEq] at h
    obtain ⟨rfl, rfl, rfl⟩ := h
    exact wp_ret (hQ a ρ w R T (Ext.refl _ _ _) rfl)
  | _ => intro t H e t' H' h; simp [execA] at h
end

end Go.Proofs.YtjmldnpdfnklcaaDoor

namespace Go.Proofs.YtjmldnpdfnklcaaDoor

section
variable {P : Program} {C : Callee} {ρ : Ren} {H H' : AHeap} {w : World} {t t' : Tmps} {a : Act}
theorem step_keeps (hC : KeepsC C) {ops : List Oper} {lo : Bool} {o : Oper} {v : AV} (h : stepA P C ops lo o t H = some (v, H')) : Keeps H H' := by
  unfold stepA at h
  split at h <;> first | (cases h; done) | skip
  · split at h
    · have := (opG_fresh hC h).1
      exact ⟨this.1, this.2.1, fun r _ h2 => this.2.2 r h2⟩
    · exact op_keeps hC h
  · simp only [Option.some.injEq, Prod.mk.injEq] at h
    rw [h.2]; exact .refl _
theorem opsA_keeps (hC : KeepsC C) {ops : List Oper} : ∀ (l : List Oper) (t : Tmps) (H : AHeap), opsA P C ops l t H = some (t', H') → Keeps H H'
  | [], t, H, h => by
    simp only [opsA, Option.some.injEq, Prod.mk.injEq] at h
    rw [h.2]; exact .refl _
  | o :: l, t, H, h => by
    rw [opsA_cons] at h
    split at h <;> first | (cases h; done) | skip
    rename_i v H1 h1
    exact (step_keeps hC h1).trans (opsA_keeps hC l _ _ h)
theorem constRun_keeps (hC : KeepsC C) {ops : List Oper} : ∀ (l : List Nat) (t : Tmps) (H : AHeap), constRun P C ops l t H = some (t', H') → Keeps H H'
  | [], t, H, h => by
    simp only [constRun, Option.some.injEq, Prod.mk.injEq] at h
    rw [h.2]; exact .refl _
  | i :: l, t, H, h => by
    simp only [constRun] at h
    split at h <;> first | (cases h; done) | skip
    split at h <;> first | (cases h; done) | skip
    rename_i v H1 h1
    exact (op_keeps hC h1).trans (constRun_keeps hC l _ _ h)
theorem drawRun_keeps (hC : KeepsC C) {ops : List Oper} : ∀ (l : List Nat) (t : Tmps) (H : AHeap), drawRun P C ops l t H = some (t', H') → Keeps H H'
  | [], t, H, h => by
    simp only [drawRun, Option.some.injEq, Prod.mk.injEq] at h
    rw [h.2]; exact .refl _
  | i :: l, t, H, h => by
    simp only [drawRun] at h
    split at h <;> first | (cases h; done) | skip
    split at h <;> first | (cases h; done) | skip
    rename_i v H1 h1
    exact (step_keeps hC h1).trans (drawRun_keeps hC l _ _ h)
theorem drawA_keeps (hC : KeepsC C) {ops : List Oper} (h : drawA P C ops t H = some (t', H')) : Keeps H H' := by
  unfold drawA at h
  split at h <;> first | (cases h; done) | skip
  split at h <;> first | (cases h; done) | skip
  rename_i t0 H0 h0
  have k0 := constRun_keeps hC _ _ _ h0
  split at h
  · exact k0.trans (drawRun_keeps hC _ _ _ h)
  · split at h <;> first | (cases h; done) | skip
    exact k0.trans (drawRun_keeps hC _ _ _ h)
def RunKeeps (f : Run) : Prop := ∀ t H e t' H', f t H = some (e, t', H') → Keeps H H'
theorem then_keeps {f g : Run} (hf : RunKeeps f) (hg : RunKeeps g) : RunKeeps fun t H => thenA (f t H) g := by
  intro t H e t' H' h
  change thenA (f t H) g = _ at h
  unfold thenA at h
  split at h
  · rename_i t1 H1 h1; exact (hf _ _ _ _ _ h1).trans (hg _ _ _ _ _ h)
  · rename_i i t1 H1 h1
    simp only [Option.some.injEq, Prod.mk.injEq] at h
    obtain ⟨_, _, rfl⟩ := h
    exact hf _ _ _ _ _ h1
  · rename_i t1 H1 h1
    simp only [Option.some.injEq, Prod.mk.injEq] at h
    obtain ⟨_, _, rfl⟩ := h
    exact hf _ _ _ _ _ h1
  · cases h
theorem loop_keeps {f : Run} (hf : RunKeeps f) : RunKeeps (loopA f) := by
  have key : ∀ n, RunKeeps (iterA f n) := by
    intro n
    induction n with
    | zero => intro t H e t' H' h; cases h
    | succ n ih => exact then_keeps hf ih
  intro t H e t' H' h
  obtain ⟨n, hn⟩ := supA_some h
  exact key n t H e t' H' hn
theorem exec_keeps (hC : KeepsC C) : ∀ c : Code, RunKeeps (execA P C c) := by
  intro c
  induction c with
  | skip =>
    intro t H e t' H' h
    simp only [execA, Option.some.injEq, Prod.mk.injEq] at h
    rw [← h.2.2]; exact .refl _
  | region id ops draw =>
    intro t H e t' H' h
    simp only [execA] at h
    split at h <;> first | (cases h; done) | skip
    rename_i t1 H1 hd
    simp only [Option.some.injEq, Prod.mk.injEq] at h
    obtain ⟨_, rfl, rfl⟩ := h
    split at hd
    · exact drawA_keeps hC hd
    · exact opsA_keeps hC _ _ _ hd
  | seq x y ihx ihy => exact then_keeps ihx ihy
  | cond c x y ihx ihy =>
    intro t H e t' H' h
    simp only [execA] at h
    split at h
    · exact ihx _ _ _ _ _ h
    · exact ihy _ _ _ _ _ h
    · cases h
  | block id x ih =>
    intro t H e t' H' h
    simp only [execA] at h
    unfold blockA at h
    split at h
    · rename_i i t1 H1 hf
      split at h <;>
      · simp only [Option.some.injEq, Prod.mk.injEq] at h
        obtain ⟨_, _, rfl⟩ := h
        exact ih _ _ _ _ _ hf
    · rename_i t1 H1 hf
      simp only [Option.some.injEq, Prod.mk.injEq] at h
      obtain ⟨_, _, rfl⟩ := h
      exact ih _ _ _ _ _ hf
    · rename_i t1 H1 hf
      simp only [Option.some.injEq, Prod.mk.injEq] at h
      obtain ⟨_, _, rfl⟩ := h
      exact ih _ _ _ _ _ hf
    · cases h
  | loop x ih => exact loop_keeps ih
  | exit id =>
    intro t H e t' H' h
    simp only [execA, Option.some.injEq, Prod.mk.injEq] at h
    rw [← h.2.2]; exact .refl _
  | ret =>
    intro t H e t' H' h
    simp only [execA, Option.some.injEq, Prod.mk.injEq] at h
    rw [← h.2.2]; exact .refl _
  | _ => intro t H e t' H' h; simp [execA] at h
theorem runF_keeps (hC : KeepsC C) {f : FuncId} {args : List AV} {v : AV} (h : runF P C f args H = some (v, H')) : Keeps H H' := by
  unfold runF at h
  split at h <;> first | (cases h; done) | skip
  split at h <;> first | (cases h; done) | skip
  split at h <;> first | (cases h; done) | skip
  rename_i e t1 H1 hne he
  have := exec_keeps hC _ _ _ _ _ _ he
  cases hr : resultsA P _ t1 H1 with
  | none => rw [hr] at h; cases h
  | some x =>
    rw [hr] at h
    simp only [Option.map_some, Option.some.injEq, Prod.mk.injEq] at h
    rw [← h.2]; exact this
def resC (tmps : Array Value) : ResultVar → Sem Value
  | .tmp t => pure (tmps.getD t undef)
  | .cell a t => do loadVar t (← asAddr (tmps.getD a undef))
theorem results_resC (fn : Func) (tmps : Array Value) : results fn tmps = (do
    let vs ← fn.results.mapM (resC tmps)
    pure (if h : vs.size = 1 then vs[0] else .tuple vs)) := by
  rfl
theorem resA_ok (R : Rel ρ H w) (T : TOn ρ H.gen w (fun _ => True) t a) {x : ResultVar} {v : AV} (h : resA P t H x = some v) :
    ∃ cv, (resC a.tmps x).run P w = .ok cv w ∧ RV ρ H.gen w v cv := by
  cases x with
  | tmp d =>
    simp only [resA, Option.some.injEq] at h
    subst h
    exact ⟨_, rfl, T.any d trivial⟩
  | cell b ty =>
    simp only [resA] at h
    cases hl : loadA P ty (t.getD b undefA) H with
    | none => rw [hl] at h; cases h
    | some r =>
      obtain ⟨u, H1⟩ := r
      rw [hl] at h
      simp only [Option.map_some, Option.some.injEq] at h
      subst h
      have hx := T.any b trivial
      obtain ⟨_, cv, h1, h2⟩ := load_ok R hx hl
      have hp : ∃ ad, a.tmps.getD b undef = .pointer (some ad) := by
        have h' := (lookB_eq hl).1
        unfold loadO at h'
        split at h'
        · rename_i hb
          rw [hb] at hx h'
          simp only [RV] at hx
          obtain ⟨ad, e, _⟩ := hx
          exact ⟨ad, e⟩
        · rename_i hb
          rw [hb] at hx
          simp only [RV] at hx
          obtain ⟨b, o, e, _⟩ := hx
          exact ⟨_, e⟩
        · cases h'
      obtain ⟨ad, hp⟩ := hp
      refine ⟨cv, ?_, h2⟩
      rw [hp] at h1
      simp only [resC, hp]
      simpa [Instr.loadAt, Instr.sureAddr, asAddr] using h1
theorem mapM_res (R : Rel ρ H w) (T : TOn ρ H.gen w (fun _ => True) t a) : ∀ (rs : List ResultVar) (xs : List AV), rs.mapM (resA P t H) = some xs →
    ∃ cs : List Value, (rs.mapM (resC a.tmps)).run P w = .ok cs w ∧ RVs ρ H.gen w xs cs
  | [], xs, h => by
    simp at h
    subst h
    exact ⟨[], by simp, by simp [RVs]⟩
  | r :: rs, xs, h => by
    rw [List.mapM_cons] at h
    cases h1 : resA P t H r with
    | none => rw [h1] at h; cases h
    | some y =>
      rw [h1] at h
      cases h2 : rs.mapM (resA P t H) with
      | none => rw [h2] at h; cases h
      | some ys =>
        rw [h2] at h
        simp only [Option.bind_eq_bind, Option.bind_some, Option.pure_def, Option.some.injEq] at h
        subst h
        obtain ⟨cv, e1, e2⟩ := resA_ok (P := P) R T h1
        obtain ⟨cs, e3, e4⟩ := mapM_res R T rs ys h2
        refine ⟨cv :: cs, ?_, ?_⟩
        · rw [List.mapM_cons, Sem.run_bind, e1]
          simp only [Result.andThen_ok, Sem.run_bind, e3, Sem.run_pure]
        · simp only [RVs]; exact ⟨cv, cs, rfl, e2, e4⟩
theorem results_ok (R : Rel ρ H w) (T : TOn ρ H.gen w (fun _ => True) t a) {fn : Func} {v : AV} (h : resultsA P fn.results.toList t H = some v) :
    ∃ cv, (results fn a.tmps).run P w = .ok cv w ∧ RV ρ H.gen w v cv := by
  unfold resultsA at h
  cases hm : fn.results.toList.mapM (resA P t H) with
  | none => rw [hm] at h; cases h
  | some xs =>
    rw [hm] at h
    obtain ⟨cs, e1, e2⟩ := mapM_res (P := P) R T _ _ hm
    have hrun : (results fn a.tmps).run P w = .ok (if h : cs.toArray.size = 1 then cs.toArray[0] else .tuple cs.toArray) w := by
      rw [results_resC, Array.mapM_eq_mapM_toList, map_eq_pure_bind]
      simp only [Sem.run_bind]
      rw [e1]
      rfl
    rw [hrun]
    refine ⟨_, rfl, ?_⟩
    cases xs with
    | nil =>
      simp only [Option.some.injEq] at h
      subst h
      simp only [RVs] at e2
      subst e2
      simp [RV, RVs]
    | cons x xs =>
      cases xs with
      | nil =>
        simp only [Option.some.injEq] at h
        subst h
        simp only [RVs] at e2
        obtain ⟨y, ys, rfl, q1, rfl⟩ := e2
        simpa using q1
      | cons x2 xs =>
        simp only [Option.some.injEq] at h
        subst h
        have hl : cs.length ≠ 1 := by have := RVs_length e2; simp at this; omega
        have : (if h : cs.toArray.size = 1 then cs.toArray[0] else .tuple cs.toArray) = .tuple cs.toArray := by
          rw [dif_neg]; simpa using hl
        rw [this]
        simp only [RV]
        exact ⟨_, rfl, by simpa using e2⟩
theorem RVs_TOn {args : List AV} {cargs : Array Value} {m : Nat} (h : RVs ρ H.gen w args cargs.toList) :
    TOn ρ H.gen w (fun _ => True) (args ++ List.replicate (m - args.length) undefA) { tmps := cargs ++ Array.replicate (m - cargs.size) undef, defers := [] } := by
  have hl := RVs_length h
  have hl' : cargs.size = args.length := by simpa using hl
  refine ⟨by simp [hl'], fun (d : Nat) _ hd => ?_⟩
  by_cases hlt : d < args.length
  · have hx : args[d]? = some (args[d]'hlt) := List.getElem?_eq_getElem hlt
    obtain ⟨v, hv, h1⟩ := RVs_get h hx
    have e1 : (args ++ List.replicate (m - args.length) undefA).getD d undefA = args[d]'hlt := by
      simp [List.getD, List.getElem?_append_left hlt, hx]
    have e2 : (cargs ++ Array.replicate (m - cargs.size) undef).getD d undef = v := by
      have hv' : cargs[d]? = some v := by simpa using hv
      have hlt2 : d < cargs.size := by omega
      rw [Array.getD_eq_getD_getElem?, Array.getElem?_append_left hlt2, hv']; rfl
    rw [e1, e2]; exact h1
  · have e1 : (args ++ List.replicate (m - args.length) undefA).getD d undefA = undefA := by
      simp only [List.getD, List.getElem?_append_right (Nat.not_lt.1 hlt), List.getElem?_replicate]
      split <;> rfl
    have e2 : (cargs ++ Array.replicate (m - cargs.size) undef).getD d undef = undef := by
      rw [Array.getD_eq_getD_getElem?, Array.getElem?_append_right (by omega), Array.getElem?_replicate]
      split <;> rfl
    show RV ρ H.gen w (List.getD _ d undefA) (Array.getD _ d undef)
    rw [e1, e2]; exact RV_undef
theorem runF_sound (hC : Sound P C) (hK : KeepsC C) (hm : P.follows .mixedOrders = true) : Sound P (runF P C) := by
  intro f args H v H' h ρ w cargs R hargs
  unfold runF at h
  split at h <;> first | (cases h; done) | skip
  rename_i fn hf
  split at h <;> first | (cases h; done) | skip
  rename_i c hb
  split at h <;> first | (cases h; done) | skip
  rename_i e t1 H1 hne he
  cases hr : resultsA P fn.results.toList t1 H1 with
  | none => rw [hr] at h; cases h
  | some x =>
    rw [hr] at h
    simp only [Option.map_some, Option.some.injEq, Prod.mk.injEq] at h
    obtain ⟨rfl, rfl⟩ := h
    refine calls_of_wp hf hb ?_
    refine exec_sound hC hK hm c _ _ e t1 H1 he ρ w _ R (RVs_TOn hargs) _ fun a' ρ' w' r1 r2 r3 r4 => ?_
    obtain ⟨cv, q1, q2⟩ := results_ok (P := P) r1 r2 hr
    have fin : bodyPost P fn (fun e w' => ∃ cv ρ', e = .returned cv ∧ Rel ρ' H1 w' ∧ RV ρ' H1.gen w' x cv ∧ Ext ρ H w ρ' H1 w') .ret a' w' := ⟨r4, cv, q1, cv, ρ', rfl, r1, q2, r3⟩
    cases e with
    | normal => exact fin
    | ret => exact fin
    | exit i => exact absurd rfl (hne i)
def PolOk (P : Program) (L : Pol) : Prop := ∀ f p, L.prim f = some p → Sound P (fun g args H => if g = f then p args H else none) ∧ ∀ args H v H', p args H = some (v, H') → Keeps H H'
theorem callF_sound {L : Pol} (hL : PolOk P L) (hC : Sound P C) (hK : KeepsC C) (hm : P.follows .mixedOrders = true) : Sound P (callF P L C) := by
  intro f args H v H' h ρ w cargs R hargs
  unfold callF at h
  split at h
  · rename_i p hp
    exact (hL f p hp).1 f args H v H' (by simpa using h) ρ w cargs R hargs
  · split at h
    · split at h <;> first | (cases h; done) | skip
      rename_i u H1 hr
      cases hz : freezeA H1 H.next 9 u with
      | none => rw [hz] at h; cases h
      | some u' =>
        rw [hz] at h
        simp only [Option.map_some, Option.some.injEq, Prod.mk.injEq] at h
        obtain ⟨rfl, rfl⟩ := h
        refine (runF_sound hC hK hm f args H.guard u H1 hr ρ w cargs ⟨R.out, R.obj, R.inj, R.gl⟩ hargs).mono fun e w' he => ?_
        obtain ⟨cv, ρ', rfl, r1, r2, r3⟩ := he
        have E : Ext ρ H w ρ' H1 w' := ⟨r3.next, r3.mono, r3.same, r3.kept, r3.range, r3.size, r3.frame, r3.shape, r3.os, r3.tape, r3.output⟩
        obtain ⟨q1, q2, q3⟩ := pure_back R (runF_keeps hK hr) r1 E hz r2
        exact ⟨cv, ρ, rfl, q1, q2, q3⟩
    · exact runF_sound hC hK hm f args H v H' h ρ w cargs R hargs
theorem callF_keeps {L : Pol} (hL : PolOk P L) (hK : KeepsC C) : KeepsC (callF P L C) := by
  intro f args H v H' h
  unfold callF at h
  split at h
  · rename_i p hp; exact (hL f p hp).2 args H v H' h
  · split at h
    · split at h <;> first | (cases h; done) | skip
      rename_i u H1 hr
      cases hz : freezeA H1 H.next 9 u with
      | none => rw [hz] at h; cases h
      | some u' =>
        rw [hz] at h
        simp only [Option.map_some, Option.some.injEq, Prod.mk.injEq] at h
        rw [← h.2]; exact .refl _
    · exact runF_keeps hK h
end

end Go.Proofs.YtjmldnpdfnklcaaDoor

namespace Go.Proofs.YtjmldnpdfnklcaaDoor

abbrev Pt := FuncId × List AV × AHeap × AV × AHeap
def Has (C : Callee) (L : List Pt) : Prop := ∀ p ∈ L, C p.1 p.2.1 p.2.2.1 = some (p.2.2.2.1, p.2.2.2.2)
theorem Has.left {C : Callee} {L M : List Pt} (h : Has C (L ++ M)) : Has C L := fun p hp => h p (List.mem_append_left _ hp)
theorem Has.right {C : Callee} {L M : List Pt} (h : Has C (L ++ M)) : Has C M := fun p hp => h p (List.mem_append_right _ hp)
theorem Has.append {C : Callee} {L M : List Pt} (h : Has C L) (h' : Has C M) : Has C (L ++ M) := fun p hp => (List.mem_append.1 hp).elim (h p) (h' p)
/-- A result that hangs on few answers of a table. -/
def Fin1 {α : Type} (C : Callee) (F : Callee → Option α) : Prop := ∀ r, F C = some r → ∃ L, Has C L ∧ ∀ C', Has C' L → F C' = some r
theorem Fin1.const {α : Type} {C : Callee} (x : Option α) : Fin1 C fun _ => x := fun r h => ⟨[], fun _ h => by simp at h, fun _ _ => h⟩
theorem Fin1.point {C : Callee} {f : FuncId} {args : List AV} {H : AHeap} : Fin1 C fun C => C f args H := fun r h =>
  ⟨[(f, args, H, r.1, r.2)], fun p hp => by simp at hp; subst hp; exact h, fun C' hc => hc (f, args, H, r.1, r.2) (by simp)⟩
theorem Fin1.bind {α β : Type} {C : Callee} {F : Callee → Option α} {G : α → Callee → Option β} (hF : Fin1 C F) (hG : ∀ a, Fin1 C (G a)) : Fin1 C fun C => (F C).bind fun a => G a C := by
  intro r h
  cases hf : F C with
  | none => simp [hf] at h
  | some a =>
    simp only [hf, Option.bind_some] at h
    obtain ⟨L, l1, l2⟩ := hF a hf
    obtain ⟨M, m1, m2⟩ := hG a r h
    exact ⟨L ++ M, l1.append m1, fun C' hc => by simp only [l2 C' hc.left, Option.bind_some]; exact m2 C' hc.right⟩
theorem Fin1.of_eq {α : Type} {C : Callee} {F G : Callee → Option α} (h : Fin1 C G) (e : ∀ C, F C = G C) : Fin1 C F := by
  rw [show F = G from funext e]; exact h
section
variable {P : Program} {C : Callee} {t : Tmps} {H : AHeap} {o : Oper}
theorem callA_fin {x : AV} {args : List AV} : Fin1 C fun C => callA P C x args H := by
  unfold callA
  split
  · split
    · exact Fin1.point
    · exact Fin1.const _
  · split
    · exact Fin1.point
    · exact Fin1.const _
  · exact Fin1.const _
theorem opA_fin : Fin1 C fun C => opA P C t o H := by
  obtain ⟨dst, op, type, pos, after, guard⟩ := o
  cases op
  case makeMap ty r => cases r <;> exact Fin1.const _
  case call c =>
    simp only [opA, callOpA]
    split
    · exact callA_fin
    · exact Fin1.const _
    · exact Fin1.const _
  all_goals exact Fin1.const _
theorem step_fin {ops : List Oper} {lo : Bool} : Fin1 C fun C => stepA P C ops lo o t H := by
  cases hw : wantedA ops t o with
  | none => exact (Fin1.const none).of_eq fun C => by simp [stepA, hw]
  | some b =>
    cases b with
    | false => exact (Fin1.const (some (undefA, H))).of_eq fun C => by simp [stepA, hw]
    | true =>
      cases lo with
      | false => exact (opA_fin (P := P) (o := o) (t := t) (H := H)).of_eq fun C => by simp [stepA, hw]
      | true =>
        refine Fin1.of_eq (G := fun C => (opA P C t o H.guard).bind fun r => some (r.1, { r.2 with base := H.base })) (Fin1.bind opA_fin fun _ => Fin1.const _) fun C => ?_
        simp only [stepA, hw, if_true, opG]
        cases opA P C t o H.guard <;> rfl
theorem opsA_fin {ops : List Oper} : ∀ (l : List Oper) (t : Tmps) (H : AHeap), Fin1 C fun C => opsA P C ops l t H
  | [], t, H => Fin1.const _
  | o :: l, t, H => by
    refine Fin1.of_eq (G := fun C => (stepA P C ops false o t H).bind fun r => opsA P C ops l (putA t o.dst r.1) r.2) (Fin1.bind step_fin fun r => opsA_fin l _ _) fun C => ?_
    rw [opsA_cons]
    cases stepA P C ops false o t H <;> rfl
theorem constRun_fin {ops : List Oper} : ∀ (l : List Nat) (t : Tmps) (H : AHeap), Fin1 C fun C => constRun P C ops l t H
  | [], t, H => Fin1.const _
  | i :: l, t, H => by
    cases ho : ops[i]? with
    | none => exact (Fin1.const none).of_eq fun C => by simp [constRun, ho]
    | some o =>
      refine Fin1.of_eq (G := fun C => (opA P C t o H).bind fun r => constRun P C ops l (putA t o.dst r.1) r.2) (Fin1.bind opA_fin fun r => constRun_fin l _ _) fun C => ?_
      simp only [constRun, ho]
      cases opA P C t o H <;> rfl
/-- A run, and all that is ahead of its end. -/
theorem drawRun_fin {ops : List Oper} : ∀ (l : List Nat) (t : Tmps) (H : AHeap) (r : Tmps × AHeap), drawRun P C ops l t H = some r →
    ∃ L, Has C L ∧ ∀ C', Has C' L → ∀ k, drawRun P C' ops (l.take k) t H = drawRun P C ops (l.take k) t H
  | [], t, H, r, h => ⟨[], fun _ h => by simp at h, fun _ _ k => by simp [drawRun]⟩
  | i :: l, t, H, r, h => by
    simp only [drawRun] at h
    cases ho : ops[i]? with
    | none => rw [ho] at h; cases h
    | some o =>
      rw [ho] at h
      simp only at h
      cases hs : stepA P C ops (loose ops i && isCall o.op) o t H with
      | none => rw [hs] at h; cases h
      | some q =>
        rw [hs] at h
        simp only at h
        obtain ⟨L, l1, l2⟩ := step_fin (P := P) (C := C) (t := t) (H := H) (o := o) (ops := ops) (lo := loose ops i && isCall o.op) q hs
        obtain ⟨M, m1, m2⟩ := drawRun_fin l _ _ r h
        refine ⟨L ++ M, l1.append m1, fun C' hc k => ?_⟩
        cases k with
        | zero => rfl
        | succ k =>
          have e := l2 C' hc.left
          simp only [List.take_succ_cons, drawRun, ho, hs]
          simp only at e
          rw [e]
          exact m2 C' hc.right k
theorem rest_take {ops : List Oper} {p : Nat} (hp : p ≤ ops.length) : ∃ k, (List.range p).filter (fun i => !cst ops i) = (restIdx ops).take k := by
  have : List.range ops.length = List.range p ++ (List.range (ops.length - p)).map (p + ·) := by
    rw [← List.range_add]; congr 1; omega
  refine ⟨((List.range p).filter (fun i => !cst ops i)).length, ?_⟩
  unfold restIdx
  rw [this, List.filter_append, List.take_left]
theorem effPairs_lt {ops : List Oper} {p : Nat × Nat} (h : p ∈ effPairs ops) : p.1 < ops.length ∧ p.2 < ops.length := by
  unfold effPairs at h
  obtain ⟨j, hj, h⟩ := List.mem_flatMap.1 h
  obtain ⟨e, he, rfl⟩ := List.mem_map.1 h
  exact ⟨List.mem_range.1 hj, List.mem_range.1 (List.mem_filter.1 he).1⟩
theorem drawA_fin {ops : List Oper} : Fin1 C fun C => drawA P C ops t H := by
  intro r h
  simp only at h
  unfold drawA at h
  split at h <;> first | (cases h; done) | skip
  rename_i hok
  split at h <;> first | (cases h; done) | skip
  rename_i t0 H0 h0
  obtain ⟨L, l1, l2⟩ := constRun_fin (P := P) (C := C) (ops := ops) (constIdx ops) t H (t0, H0) h0
  have hrun : drawRun P C ops (restIdx ops) t0 H0 = some r := by
    split at h
    · exact h
    · split at h <;> first | (cases h; done) | skip
      exact h
  obtain ⟨M, m1, m2⟩ := drawRun_fin (P := P) (C := C) (ops := ops) (restIdx ops) t0 H0 r hrun
  have hall : ∀ C', Has C' M → drawRun P C' ops (restIdx ops) t0 H0 = some r := fun C' hc => by
    have := m2 C' hc (restIdx ops).length
    rw [List.take_length] at this
    rw [this]; exact hrun
  have hst : ∀ C', Has C' M → ∀ p, p ≤ ops.length → stAt P C' ops p t0 H0 = stAt P C ops p t0 H0 := fun C' hc p hp => by
    obtain ⟨k, hk⟩ := rest_take hp
    unfold stAt
    rw [hk]; exact m2 C' hc k
  refine ⟨L ++ M, l1.append m1, fun C' hc => ?_⟩
  have e0 := l2 C' hc.left
  simp only at e0 ⊢
  unfold drawA
  rw [if_pos hok, e0]
  simp only
  split at h
  · exact hall C' hc.right
  · rename_i ps hps he
    split at h <;> first | (cases h; done) | skip
    rename_i ha
    cases hq : effPairs ops with
    | nil => exact hall C' hc.right
    | cons q qs =>
      rw [if_pos]
      · exact hall C' hc.right
      · intro p hp tj Hj te He te' He' q1 q2 q3
        rw [← hq] at hp
        obtain ⟨b1, b2⟩ := effPairs_lt hp
        rw [hst C' hc.right _ (by omega)] at q1 q2 q3
        exact ha p hp tj Hj te He te' He' q1 q2 q3
abbrev RunC := Callee → Run
def FinR (C : Callee) (F : RunC) : Prop := ∀ t H, Fin1 C fun C => F C t H
theorem then_fin {F G : RunC} (hF : FinR C F) (hG : FinR C G) : FinR C fun C t H => thenA (F C t H) (G C) := by
  intro t H
  refine Fin1.of_eq (G := fun C => (F C t H).bind fun r => (match r with | (.normal, t, H) => G C t H | r => some r)) (Fin1.bind (hF t H) fun r => ?_) fun C => ?_
  · obtain ⟨e, t, H⟩ := r
    cases e with
    | normal => exact hG t H
    | _ => exact Fin1.const _
  · show thenA (F C t H) (G C) = _
    unfold thenA
    cases F C t H with
    | none => rfl
    | some r => obtain ⟨e, t, H⟩ := r; cases e <;> rfl
theorem loop_fin {F : RunC} (hF : FinR C F) : FinR C fun C => loopA (F C) := by
  have key : ∀ n, FinR C fun C => iterA (F C) n := by
    intro n
    induction n with
    | zero => exact fun t H => Fin1.const none
    | succ n ih => exact then_fin hF ih
  intro t H r h
  obtain ⟨n, hn⟩ := supA_some h
  obtain ⟨L, l1, l2⟩ := key n t H r hn
  exact ⟨L, l1, fun C' hc => supA_eq (fun n r => iterA_mono n t H r) (l2 C' hc)⟩
theorem exec_fin : ∀ c : Code, FinR C fun C => execA P C c := by
  intro c
  induction c with
  | skip => exact fun t H => Fin1.const _
  | region id ops draw =>
    intro t H
    cases draw with
    | true =>
      refine Fin1.of_eq (G := fun C => (drawA P C ops.toList t H).bind fun r => some (.normal, r.1, r.2)) (Fin1.bind drawA_fin fun _ => Fin1.const _) fun C => ?_
      simp only [execA, if_true]
      cases drawA P C ops.toList t H <;> rfl
    | false =>
      refine Fin1.of_eq (G := fun C => (opsA P C ops.toList ops.toList t H).bind fun r => some (.normal, r.1, r.2)) (Fin1.bind (opsA_fin _ _ _) fun _ => Fin1.const _) fun C => ?_
      simp only [execA, Bool.false_eq_true, if_false]
      cases opsA P C ops.toList ops.toList t H <;> rfl
  | seq x y ihx ihy => exact then_fin ihx ihy
  | cond c x y ihx ihy =>
    intro t H
    simp only [execA]
    split
    · exact ihx t H
    · exact ihy t H
    · exact Fin1.const _
  | block id x ih =>
    intro t H
    refine Fin1.of_eq (G := fun C => (execA P C x t H).bind fun r => blockA id (some r)) (Fin1.bind (ih t H) fun _ => Fin1.const _) fun C => ?_
    simp only [execA]
    cases execA P C x t H <;> rfl
  | loop x ih => exact loop_fin ih
  | exit id => exact fun t H => Fin1.const _
  | ret => exact fun t H => Fin1.const _
  | _ => exact fun t H => Fin1.const _
theorem runF_fin {f : FuncId} {args : List AV} : Fin1 C fun C => runF P C f args H := by
  cases hf : P.funcs[f]? with
  | none => exact (Fin1.const none).of_eq fun C => by simp [runF, hf]
  | some fn =>
    cases hb : fn.body with
    | none => exact (Fin1.const none).of_eq fun C => by simp [runF, hf, hb]
    | some c =>
      refine Fin1.of_eq (G := fun C => (execA P C c (args ++ List.replicate (fn.ntmps - args.length) undefA) H).bind fun r =>
        (match r with
          | (.exit _, _, _) => none
          | (_, t, H') => (resultsA P fn.results.toList t H').map fun v => (v, H'))) (Fin1.bind (exec_fin c _ _) fun _ => Fin1.const _) fun C => ?_
      simp only [runF, hf, hb]
      cases execA P C c (args ++ List.replicate (fn.ntmps - args.length) undefA) H with
      | none => rfl
      | some r => obtain ⟨e, t, H⟩ := r; cases e <;> rfl
theorem callF_fin {L : Pol} {f : FuncId} {args : List AV} : Fin1 C fun C => callF P L C f args H := by
  cases hp : L.prim f with
  | some p => exact (Fin1.const (p args H)).of_eq fun C => by simp [callF, hp]
  | none =>
    cases hq : L.pure f with
    | false => exact (runF_fin (P := P) (f := f) (args := args) (H := H)).of_eq fun C => by simp [callF, hp, hq]
    | true =>
      refine Fin1.of_eq (G := fun C => (runF P C f args H.guard).bind fun r => (freezeA r.2 H.next 9 r.1).map fun v' => (v', H)) (Fin1.bind runF_fin fun _ => Fin1.const _) fun C => ?_
      simp only [callF, hp, hq, if_true]
      cases runF P C f args H.guard <;> rfl
end
noncomputable def callN (P : Program) (L : Pol) : Nat → Callee
  | 0 => fun _ _ _ => none
  | n + 1 => callF P L (callN P L n)
noncomputable def callω (P : Program) (L : Pol) : Callee := fun f args H => supA fun n => callN P L n f args H
section
variable {P : Program} {L : Pol}
theorem callN_mono : ∀ (n : Nat) (f : FuncId) (args : List AV) (H : AHeap) (r : AV × AHeap), callN P L n f args H = some r → callN P L (n + 1) f args H = some r := by
  intro n
  induction n with
  | zero => intro f args H r h; cases h
  | succ n ih =>
    intro f args H r h
    obtain ⟨M, m1, m2⟩ := callF_fin (P := P) (L := L) (C := callN P L n) (f := f) (args := args) (H := H) r h
    exact m2 _ fun p hp => ih _ _ _ _ (m1 p hp)
theorem has_N : ∀ M : List Pt, Has (callω P L) M → ∃ n, Has (callN P L n) M
  | [], _ => ⟨0, fun _ h => by simp at h⟩
  | p :: M, h => by
    obtain ⟨n, hn⟩ := supA_some (h p (by simp))
    obtain ⟨m, hm⟩ := has_N M fun q hq => h q (by simp [hq])
    refine ⟨n + m, fun q hq => ?_⟩
    rcases List.mem_cons.1 hq with rfl | hq
    · exact mono_le (g := fun n => callN P L n q.1 q.2.1 q.2.2.1) (fun n r => callN_mono n _ _ _ r) hn (by omega)
    · exact mono_le (g := fun n => callN P L n q.1 q.2.1 q.2.2.1) (fun n r => callN_mono n _ _ _ r) (hm q hq) (by omega)
/-- The table answers what the code's run answers. -/
theorem callω_of {f : FuncId} {args : List AV} {H : AHeap} {r : AV × AHeap} (h : callF P L (callω P L) f args H = some r) : callω P L f args H = some r := by
  obtain ⟨M, m1, m2⟩ := callF_fin (P := P) (L := L) (C := callω P L) (f := f) (args := args) (H := H) r h
  obtain ⟨n, hn⟩ := has_N M m1
  have : callN P L (n + 1) f args H = some r := m2 _ hn
  exact supA_eq (g := fun n => callN P L n f args H) (fun n r => callN_mono n f args H r) this
theorem callω_ok (hL : PolOk P L) (hm : P.follows .mixedOrders = true) : Sound P (callω P L) ∧ KeepsC (callω P L) := by
  have key : ∀ n, Sound P (callN P L n) ∧ KeepsC (callN P L n) := by
    intro n
    induction n with
    | zero => exact ⟨fun f args H v H' h => (by cases h), fun f args H v H' h => (by cases h)⟩
    | succ n ih => exact ⟨callF_sound hL ih.1 ih.2 hm, callF_keeps hL ih.2⟩
  refine ⟨fun f args H v H' h => ?_, fun f args H v H' h => ?_⟩
  · obtain ⟨n, hn⟩ := supA_some h
    exact (key n).1 f args H v H' hn
  · obtain ⟨n, hn⟩ := supA_some h
    exact (key n).2 f args H v H' hn
end

end Go.Proofs.YtjmldnpdfnklcaaDoor

namespace Go.Proofs.YtjmldnpdfnklcaaDoor

def condA (c : AV) (x y : Res) : Res :=
  match c with
  | .s (.bool true) => x
  | .s (.bool false) => y
  | _ => none
def bnd {α β : Type} (x : Option (α × AHeap)) (k : α → AHeap → Option β) : Option β :=
  match x with
  | some (v, H) => k v H
  | none => none
theorem bnd_some {α β : Type} {v : α} {H : AHeap} {k : α → AHeap → Option β} : bnd (some (v, H)) k = k v H := rfl
/-- An operation that is carried out only if b. -/
def gd {β : Type} (b : Bool) (x : Option (AV × AHeap)) (H : AHeap) (k : AV → AHeap → Option β) : Option β :=
  if b = true then bnd x k else k undefA H
def okN (r : Option (Tmps × AHeap)) : Res :=
  match r with
  | some (t, H) => some (.normal, t, H)
  | none => none
section
variable {P : Program} {C : Callee} {t : Tmps} {H H' : AHeap}
theorem exec_seq {a b : Code} : execA P C (.seq a b) t H = thenA (execA P C a t H) (execA P C b) := rfl
theorem exec_cond {c : Operand} {a b : Code} : execA P C (.cond c a b) t H = condA (evalA t c) (execA P C a t H) (execA P C b t H) := by
  simp only [execA, condA]
  try rfl
theorem exec_block {id : Nat} {a : Code} : execA P C (.block id a) t H = blockA id (execA P C a t H) := rfl
theorem exec_region {id : Nat} {ops : Array Oper} : execA P C (.region id ops false) t H = okN (opsA P C ops.toList ops.toList t H) := by
  simp only [execA, okN, Bool.false_eq_true, if_false]
  try rfl
theorem exec_draw {id : Nat} {ops : Array Oper} : execA P C (.region id ops true) t H = okN (drawA P C ops.toList t H) := by
  simp only [execA, okN, if_true]
  try rfl
/-- What a guard yielded. -/
def guardV (ops : List Oper) (t : Tmps) (j : Nat) : Option AV := (ops[j]?.bind (·.dst)).bind fun d => t[d]?
def guardB (g : Option AV) (want : Bool) : Option Bool :=
  match g with
  | some (.s (.bool b)) => some (b == want)
  | some (.tup []) => some false
  | _ => none
/-- A guarded operation. -/
def gdA {β : Type} (g : Option AV) (want : Bool) (x : Option (AV × AHeap)) (H : AHeap) (k : AV → AHeap → Option β) : Option β :=
  match guardB g want with
  | some b => gd b x H k
  | none => none
theorem gdA_undef {β : Type} {want : Bool} {x : Option (AV × AHeap)} {k : AV → AHeap → Option β} : gdA (some undefA) want x H k = k undefA H := rfl
theorem wanted_guard {ops : List Oper} {o : Oper} {j : Nat} {want : Bool} (h : o.guard = some (j, want)) : wantedA ops t o = guardB (guardV ops t j) want := by
  unfold wantedA guardV guardB
  rw [h]
  simp only
  cases hp : ops[j]? with
  | none => rfl
  | some p =>
    simp only [Option.bind_some]
    cases hd : p.dst with
    | none => rfl
    | some d => rfl
theorem getD_set_eq {t : Tmps} {i : Nat} {v : AV} (h : i < t.length) : (t.set i v).getD i undefA = v := by
  simp [List.getD, h]
theorem getD_set_ne {t : Tmps} {i j : Nat} {v : AV} (h : i ≠ j) : (t.set i v).getD j undefA = t.getD j undefA := by
  simp [List.getD, h]
theorem getElem?_getD {t : Tmps} {i : Nat} (h : i < t.length) : t[i]? = some (t.getD i undefA) := by
  simp [List.getD, h]
theorem bnd_lift {β : Type} {v : AV} {k : AV → AHeap → Option β} : bnd (liftO (some v) H) k = k v H := rfl
theorem lift_some {v : AV} : liftO (some v) H = some (v, H) := rfl
def retA (P : Program) (rs : List ResultVar) (r : Res) : Option (AV × AHeap) :=
  match r with
  | some (.exit _, _, _) => none
  | some (_, t, H') => (resultsA P rs t H').map fun v => (v, H')
  | none => none
theorem runF_eq {f : FuncId} {fn : Func} {c : Code} {args : List AV} (hf : P.funcs[f]? = some fn) (hb : fn.body = some c) :
    runF P C f args H = retA P fn.results.toList (execA P C c (args ++ List.replicate (fn.ntmps - args.length) undefA) H) := by
  unfold runF retA
  simp only [hf, hb]
  try rfl
theorem run_of {L : Pol} {f : FuncId} {args : List AV} {r : AV × AHeap} (h1 : L.prim f = none) (h2 : L.pure f = false) (h : runF P (callω P L) f args H = some r) : callω P L f args H = some r :=
  callω_of (by simp only [callF, h1, h2, Bool.false_eq_true, if_false]; exact h)
theorem pure_of {L : Pol} {f : FuncId} {args : List AV} {v v' : AV} {H1 : AHeap} (h1 : L.prim f = none) (h2 : L.pure f = true) (h : runF P (callω P L) f args H.guard = some (v, H1)) (hz : freezeA H1 H.next 9 v = some v') :
    callω P L f args H = some (v', H) :=
  callω_of (by simp only [callF, h1, h2, if_true, h, hz, Option.map_some])
theorem prim_of {L : Pol} {f : FuncId} {args : List AV} {r : AV × AHeap} {p : List AV → AM AV} (h1 : L.prim f = some p) (h : p args H = some r) : callω P L f args H = some r :=
  callω_of (by simp only [callF, h1]; exact h)
theorem callA_fn {f : FuncId} {a c args : List AV} (h : enterable P f = true) : callA P C (.fn (.func f) a c) args H = C f (a ++ args ++ c) H := by
  simp only [callA, h, if_true]
end
theorem pureRun_pure {α : Type} {P : Program} {a : α} : pureRun P (Pure.pure a) = some a := rfl
section
variable {P : Program} {t : TypeId} {k : IntKind} {a b : Int}
theorem lss_int : binA P .lss t (.s (.int k a)) (.s (.int k b)) = some (.s (.bool (decide (a < b)))) := by
  simp [binA, AV.val?, eqGuard, binOp, Op.intCmp, pureRun_pure]
theorem leq_int : binA P .leq t (.s (.int k a)) (.s (.int k b)) = some (.s (.bool (decide (a ≤ b)))) := by
  simp [binA, AV.val?, eqGuard, binOp, Op.intCmp, pureRun_pure]
theorem gtr_int : binA P .gtr t (.s (.int k a)) (.s (.int k b)) = some (.s (.bool (decide (b < a)))) := by
  simp [binA, AV.val?, eqGuard, binOp, Op.intCmp, pureRun_pure]
theorem geq_int : binA P .geq t (.s (.int k a)) (.s (.int k b)) = some (.s (.bool (decide (b ≤ a)))) := by
  simp [binA, AV.val?, eqGuard, binOp, Op.intCmp, pureRun_pure]
theorem eql_int : binA P .eql t (.s (.int k a)) (.s (.int k b)) = some (.s (.bool (decide (a = b)))) := by
  simp [binA, AV.val?, eqGuard, binOp, Op.intCmp, pureRun_pure]
  by_cases h : a = b <;> simp [h]
theorem neq_int : binA P .neq t (.s (.int k a)) (.s (.int k b)) = some (.s (.bool (!decide (a = b)))) := by
  simp [binA, AV.val?, eqGuard, binOp, Op.intCmp, pureRun_pure]
  by_cases h : a = b <;> simp [h]
theorem add_int : binA P .add t (.s (.int k a)) (.s (.int k b)) = some (.s (.int k (k.wrap (a + b)))) := by
  simp [binA, AV.val?, eqGuard, binOp, Op.intArith, pureRun_pure]
theorem sub_int : binA P .sub t (.s (.int k a)) (.s (.int k b)) = some (.s (.int k (k.wrap (a - b)))) := by
  simp [binA, AV.val?, eqGuard, binOp, Op.intArith, pureRun_pure]
theorem mul_int : binA P .mul t (.s (.int k a)) (.s (.int k b)) = some (.s (.int k (k.wrap (a * b)))) := by
  simp [binA, AV.val?, eqGuard, binOp, Op.intArith, pureRun_pure]
theorem quo_int (h : b ≠ 0) : binA P .quo t (.s (.int k a)) (.s (.int k b)) = some (.s (.int k (k.wrap (a.tdiv b)))) := by
  simp [binA, AV.val?, eqGuard, binOp, Op.intDiv, pureRun_pure, h]
theorem rem_int (h : b ≠ 0) : binA P .rem t (.s (.int k a)) (.s (.int k b)) = some (.s (.int k (a.tmod b))) := by
  simp [binA, AV.val?, eqGuard, binOp, Op.intDiv, pureRun_pure, h]
theorem min_int {ts : Array TypeId} : minMaxA P false ts t [.s (.int k a), .s (.int k b)] = some (.s (.int k (min a b))) := by
  simp [minMaxA, vals?, AV.val?, Builtin.min_, Builtin.min2, pureRun_pure, Int.min_def]
  split <;> split <;> first | rfl | omega
theorem not_bool {b : Bool} : unA P .not (.s (.bool b)) = some (.s (.bool (!b))) := by
  simp [unA, AV.val?, Op.unary, pureRun_pure]
theorem neg_int : unA P .neg (.s (.int k a)) = some (.s (.int k (k.wrap (0 - a)))) := by
  simp [unA, AV.val?, Op.unary, Op.intArith, pureRun_pure]
theorem wrap64 (h1 : -9223372036854775808 ≤ a) (h2 : a ≤ 9223372036854775807) : IntKind.wrap .i64 a = a := by
  simp only [IntKind.wrap, IntKind.bits, IntKind.signed]
  simp
  omega
end
def fieldPtr (x : AV) (o : Nat) : Option AV :=
  match x with
  | .ref r g off => some (.ref r g (off + o))
  | .ip cells => some (.ip (cells.drop o))
  | _ => none
theorem fieldPtr_ref {r g off o : Nat} : fieldPtr (.ref r g off) o = some (.ref r g (off + o)) := rfl
theorem fieldPtr_ip {cells : List AV} {o : Nat} : fieldPtr (.ip cells) o = some (.ip (cells.drop o)) := rfl
theorem box_eq {t : TypeId} {v : AV} {H : AHeap} (h : v.cells.all AV.isCell = true) (ht : t < 1000000000 := by decide) : boxA t v H = some (.ref H.next 0 0, H.new (.blk 0 t v.cells)) := by
  unfold boxA; rw [if_pos ⟨h, ht⟩]
theorem cells_agg {l : List AV} : (AV.agg l).cells = l := rfl
theorem cells_int {k : IntKind} {n : Int} : (AV.s (.int k n)).cells = [.s (.int k n)] := rfl
theorem cells_bool {b : Bool} : (AV.s (.bool b)).cells = [.s (.bool b)] := rfl
theorem isCell_int {k : IntKind} {n : Int} : (AV.s (.int k n)).isCell = true := rfl
theorem isCell_bool {b : Bool} : (AV.s (.bool b)).isCell = true := rfl
theorem isCell_ref {r g off : Nat} : (AV.ref r g off).isCell = true := rfl
theorem isCell_nil {a b : Nat} : (AV.s (.slice none a b)).isCell = true := rfl
section
variable {H : AHeap} {r r' : Nat} {o : AObj}
theorem get_new : (H.new o).get r = if r = H.next then o else H.get r := rfl
theorem get_put : (H.put r' o).get r = if r = r' then o else H.get r := rfl
theorem next_new : (H.new o).next = H.next + 1 := rfl
end

end Go.Proofs.YtjmldnpdfnklcaaDoor

namespace Go.Proofs.YtjmldnpdfnklcaaDoor

section
variable (P : Program) (C : Callee) (ops : List Oper)
def constL : List Oper → List Bool → Tmps → AHeap → Option (Tmps × AHeap)
  | o :: os, true :: fs, t, H => bnd (opA P C t o H) fun v H => constL os fs (putA t o.dst v) H
  | _ :: os, false :: fs, t, H => constL os fs t H
  | [], [], t, H => some (t, H)
  | _, _, _, _ => none
def drawFl : List (Option Bool) := (List.range ops.length).map fun i => if cst ops i = true then none else some (loose ops i && isCall (getOp ops i))
def constFl : List Bool := (List.range ops.length).map (cst ops)
end
section
variable {P : Program} {C : Callee} {ops : List Oper}
theorem constL_eq : ∀ (l pre : List Oper) (t : Tmps) (H : AHeap), pre ++ l = ops →
    constRun P C ops ((List.range' pre.length l.length).filter (cst ops)) t H = constL P C l ((List.range' pre.length l.length).map (cst ops)) t H
  | [], pre, t, H, _ => rfl
  | o :: l, pre, t, H, h => by
    have ho : ops[pre.length]? = some o := by rw [← h]; simp
    have ih := fun t H => constL_eq l (pre ++ [o]) t H (by simpa using h)
    simp only [List.length_append, List.length_cons, List.length_nil] at ih
    rw [List.length_cons, List.range'_succ, List.map_cons, List.filter_cons]
    cases hc : cst ops pre.length with
    | false =>
      simp only [Bool.false_eq_true, if_false, constL]
      exact ih t H
    | true =>
      simp only [if_true, constRun, ho, constL]
      cases hop : opA P C t o H with
      | none => rfl
      | some r => exact ih _ _
def unG (H : AHeap) (r : Option (AV × AHeap)) : Option (AV × AHeap) :=
  match r with
  | some (v, H') => some (v, { H' with base := H.base })
  | none => none
theorem unG_pure {H : AHeap} {v : AV} : unG H (some (v, H.guard)) = some (v, H) := rfl
end
theorem nx1 (n : Nat) : (n = n + 1) = False := eq_false (by omega)
theorem ny1 (n : Nat) : (n + 1 = n) = False := eq_false (by omega)
theorem nx2 (n : Nat) : (n = n + 1 + 1) = False := eq_false (by omega)
theorem ny2 (n : Nat) : (n + 1 + 1 = n) = False := eq_false (by omega)
theorem nx3 (n : Nat) : (n = n + 1 + 1 + 1) = False := eq_false (by omega)
theorem ny3 (n : Nat) : (n + 1 + 1 + 1 = n) = False := eq_false (by omega)

end Go.Proofs.YtjmldnpdfnklcaaDoor

namespace Go.Proofs.YtjmldnpdfnklcaaDoor

/-- What a program has found of a function: the temporaries that live at a loop (by its first region), and how a drawn region is gone through. -/
structure Ann where
  live : List (Nat × List Nat)
  draw : List (Nat × List (Option Bool))
  pairs : List (Nat × List (Nat × Nat))
def lookN {α : Type} (d : α) : List (Nat × α) → Nat → α
  | [], _ => d
  | (k, v) :: l, n => bif Nat.beq k n then v else lookN d l n
def firstR : Code → Nat
  | .region id _ _ => id + 1
  | .seq a b => match firstR a with
    | 0 => firstR b
    | n + 1 => n + 1
  | .cond _ a b => match firstR a with
    | 0 => firstR b
    | n + 1 => n + 1
  | .block _ a => firstR a
  | .loop a => firstR a
  | _ => 0
def bo {α β : Type} (x : Option α) (k : α → Option β) : Option β :=
  match x with
  | some v => k v
  | none => none
def condK {β : Type} (c : AV) (x y : Option β) : Option β :=
  match c with
  | .s (.bool true) => x
  | .s (.bool false) => y
  | _ => none
def iterL {β : Type} (B : List AV → AHeap → (List AV → AHeap → Option β) → Option β) : Nat → List AV → AHeap → Option β
  | 0, _, _ => none
  | n + 1, s, H => B s H (iterL B n)
noncomputable def fixL {β : Type} (B : List AV → AHeap → (List AV → AHeap → Option β) → Option β) : List AV → AHeap → Option β := fun s H => supA fun n => iterL B n s H
/-- What the temporaries are, the newest first. -/
abbrev Env := List (Nat × AV)
def look : Env → Nat → AV
  | [], _ => undefA
  | (d, v) :: e, i => bif Nat.beq d i then v else look e i
def evalE (n : Nat) (e : Env) : Operand → AV
  | .tmp i => bif Nat.blt i n then look e i else undefA
  | .const v => .s v
  | .global g => .s (.pointer (some ⟨g, 0, none⟩))
  | .func f => .fn (.func f) [] []
def putK (e : Env) (dst : Option Tmp) (v : AV) : Env :=
  match dst with
  | some d => (d, v) :: e
  | none => e
def envOf : List AV → Nat → Env
  | [], _ => []
  | a :: l, i => (i, a) :: envOf l (i + 1)
def proj (M : List Nat) (e : Env) : List AV := match M with
  | [] => []
  | i :: M => look e i :: proj M e
/-- The temporaries of which only those that live are known. -/
def emb (s : List AV) : List Nat → Nat → Env
  | [], _ => []
  | m :: M, j => (m, s.getD j undefA) :: emb s M (j + 1)
section
variable {β : Type} (P : Program) (C : Callee)
/-- An operation over what its operands are. -/
def callE (ev : Operand → AV) (c : Call) (type : TypeId) : AM AV := fun H =>
  match c.callee with
  | .value f => callA P C (ev f) (c.args.toList.map ev) H
  | .builtin b => builtinA P b c.argTypes type (c.args.toList.map ev) H
  | .invoke _ _ => none
def opE (ev : Operand → AV) (o : Oper) : AM AV :=
  match o.op with
  | .move x => liftO (some (ev x))
  | .assign x => liftO (some (ev x))
  | .pick c a b => liftO (pickA (ev c) (ev a) (ev b))
  | .alloc e => allocA P e
  | .box e x => boxA e (ev x)
  | .build ty ps => liftO (buildA P ty (ps.toList.map fun p => (p.1, ev p.2)))
  | .buildSlice ty n ps => buildSliceA P ty n (ps.toList.map fun p => (p.1, ev p.2))
  | .load ty x => loadA P ty (ev x)
  | .store ty x v => storeA P ty (ev x) (ev v)
  | .nilCheck x => liftO (nilCheckA (ev x))
  | .binOp op ty x y _ => liftO (binE P op ty y (ev x) (ev y))
  | .unOp op _ x => liftO (unA P op (ev x))
  | .convert src dst x => convertA P src dst (ev x)
  | .makeFunc f a c => liftO (some (.fn f (a.toList.map ev) (c.toList.map ev)))
  | .makeMap ty none => makeMapA P ty
  | .makeSlice ty l c => makeSliceA P ty (ev l) (ev c)
  | .slice ty x lo hi mx => liftO (sliceA P ty (ev x) (lo.map ev) (hi.map ev) (mx.map ev))
  | .fieldAddr ty x i => liftO (fieldAddrA P ty (ev x) i)
  | .field ty x i => liftO (fieldA P ty (ev x) i)
  | .indexAddr ty x i => indexAddrA P ty (ev x) (ev i)
  | .index ty x i => liftO (indexA P ty (ev x) (ev i))
  | .lookup ty x i ok => lookupA P ty (ev x) (ev i) ok
  | .mapUpdate ty m k v => mapUpdateA P ty (ev m) (ev k) (ev v)
  | .extract x i => liftO (extractA (ev x) i)
  | .call c => callE P C ev c o.type
  | _ => fun _ => none
def watchE (ev : Operand → AV) : Op → Option Nat
  | .load _ x => watchV (ev x)
  | .lookup _ x _ _ => watchV (ev x)
  | .indexAddr _ x _ => watchV (ev x)
  | .convert _ _ x => watchV (ev x)
  | .call c => match c.args.toList with
    | [x] => watchV (ev x)
    | _ => none
  | _ => none
def opK (ev : Operand → AV) (o : Oper) (H : AHeap) (k : AV → AHeap → Option β) : Option β :=
  match o.op with
  | .move x => k (ev x) H
  | .assign x => k (ev x) H
  | .pick c a b => bo (pickA (ev c) (ev a) (ev b)) fun v => k v H
  | .build ty ps => bo (buildA P ty (ps.toList.map fun p => (p.1, ev p.2))) fun v => k v H
  | .nilCheck x => bo (nilCheckA (ev x)) fun v => k v H
  | .binOp op ty x y _ => bo (binE P op ty y (ev x) (ev y)) fun v => k v H
  | .unOp op _ x => bo (unA P op (ev x)) fun v => k v H
  | .makeFunc f a c => k (.fn f (a.toList.map (ev)) (c.toList.map (ev))) H
  | .slice ty x lo hi mx => bo (sliceA P ty (ev x) (lo.map (ev)) (hi.map (ev)) (mx.map (ev))) fun v => k v H
  | .fieldAddr ty x i => bo (fieldAddrA P ty (ev x) i) fun v => k v H
  | .field ty x i => bo (fieldA P ty (ev x) i) fun v => k v H
  | .index ty x i => bo (indexA P ty (ev x) (ev i)) fun v => k v H
  | .extract x i => bo (extractA (ev x) i) fun v => k v H
  | _ => bnd (opE P C ev o H) k
/-- What a guard yielded. -/
def guardK (n : Nat) (ops : List Oper) (e : Env) (j : Nat) : Option AV :=
  match ops[j]? with
  | some p => match p.dst with
    | some d => bif Nat.blt d n then some (look e d) else none
    | none => none
  | none => none
def stepK (n : Nat) (ops : List Oper) (lo : Bool) (o : Oper) (t : Env) (H : AHeap) (k : AV → AHeap → Option β) : Option β :=
  match o.guard with
  | none => match lo with
    | true => bnd (unG H (opE P C (evalE n t) o H.guard)) k
    | false => opK P C (evalE n t) o H k
  | some (j, want) => match lo with
    | true => gdA (guardK n ops t j) want (unG H (opE P C (evalE n t) o H.guard)) H k
    | false => gdA (guardK n ops t j) want (opE P C (evalE n t) o H) H k
def opsK (n : Nat) (ops : List Oper) : List Oper → Env → AHeap → (Env → AHeap → Option β) → Option β
  | [], t, H, k => k t H
  | o :: rest, t, H, k => stepK P C n ops false o t H fun v H => opsK n ops rest (putK t o.dst v) H k
def constK (n : Nat) : List Oper → List (Option Bool) → Env → AHeap → (Env → AHeap → Option β) → Option β
  | o :: os, none :: fs, t, H, k => bnd (opE P C (evalE n t) o H) fun v H => constK n os fs (putK t o.dst v) H k
  | _ :: os, some _ :: fs, t, H, k => constK n os fs t H k
  | [], [], t, H, k => k t H
  | _, _, _, _, _ => none
/-- What an operation of a drawn region looked at, and the heap ahead of it and behind it. -/
abbrev Log := List (Nat × Option Nat × AHeap × AHeap)
def logAt : Log → Nat → Option (Option Nat × AHeap × AHeap)
  | [], _ => none
  | (i, x) :: l, n => bif Nat.beq i n then some x else logAt l n
open Classical in
/-- A block is as it was. -/
noncomputable def ck (w : Option Nat) (H H' : AHeap) (k : Option β) : Option β := if ∀ r, w = some r → H'.get r = H.get r then k else none
noncomputable def ckL (log : Log) : List (Nat × Nat) → Option β → Option β
  | [], k => k
  | (j, e) :: ps, k => match logAt log j, logAt log e with
    | some (w, _, _), some (_, H, H') => ck w H H' (ckL log ps k)
    | _, _ => none
noncomputable def drawK (n : Nat) (ops : List Oper) (ps : List (Nat × Nat)) : List Oper → List (Option Bool) → Nat → Env → AHeap → Log → (Env → AHeap → Option β) → Option β
  | o :: os, some lo :: fs, i, t, H, log, k => stepK P C n ops lo o t H fun v H' => drawK n ops ps os fs (i + 1) (putK t o.dst v) H' ((i, watchE (evalE n t) o.op, H, H') :: log) k
  | _ :: os, none :: fs, i, t, H, log, k => drawK n ops ps os fs (i + 1) t H log k
  | [], [], _, t, H, log, k => ckL log ps (k t H)
  | _, _, _, _, _, _, _ => none
noncomputable def execK (A : Ann) (n : Nat) : Code → Env → AHeap → (Env → AHeap → Option β) → (Nat → Env → AHeap → Option β) → (Env → AHeap → Option β) → Option β
  | .skip => fun t H kn _ _ => kn t H
  | .region id ops d => fun t H kn _ _ =>
    match d with
    | true => constK P C n ops.toList (lookN [] A.draw id) t H fun t H => drawK P C n ops.toList (lookN [] A.pairs id) ops.toList (lookN [] A.draw id) 0 t H [] kn
    | false => opsK P C n ops.toList ops.toList t H kn
  | .seq a b => fun t H kn kx kr => execK A n a t H (fun t H => execK A n b t H kn kx kr) kx kr
  | .cond c a b => fun t H kn kx kr => condK (evalE n t c) (execK A n a t H kn kx kr) (execK A n b t H kn kx kr)
  | .block id a => fun t H kn kx kr => execK A n a t H kn (fun i t H => match Nat.beq i id with
    | true => kn t H
    | false => kx i t H) kr
  | .loop a => fun t H _ kx kr => fixL (fun s H k => execK A n a (emb s (lookN [] A.live (firstR a)) 0) H (fun t H => k (proj (lookN [] A.live (firstR a)) t) H) kx kr) (proj (lookN [] A.live (firstR a)) t) H
  | .exit i => fun t H _ kx _ => kx i t H
  | .ret => fun t H _ _ kr => kr t H
  | _ => fun _ _ _ _ _ => none
/-- The loops of a code, each as a function of what lives. -/
noncomputable def loopsK (A : Ann) (n : Nat) : Code → (Env → AHeap → Option β) → (Nat → Env → AHeap → Option β) → (Env → AHeap → Option β) → List (List AV → AHeap → Option β)
  | .seq a b => fun kn kx kr => loopsK A n a (fun t H => execK P C A n b t H kn kx kr) kx kr ++ loopsK A n b kn kx kr
  | .cond _ a b => fun kn kx kr => loopsK A n a kn kx kr ++ loopsK A n b kn kx kr
  | .block id a => fun kn kx kr => loopsK A n a kn (fun i t H => match Nat.beq i id with
    | true => kn t H
    | false => kx i t H) kr
  | .loop a => fun _ kx kr => fixL (fun s H k => execK P C A n a (emb s (lookN [] A.live (firstR a)) 0) H (fun t H => k (proj (lookN [] A.live (firstR a)) t) H) kx kr) ::
      loopsK A n a (fun t H => fixL (fun s H k => execK P C A n a (emb s (lookN [] A.live (firstR a)) 0) H (fun t H => k (proj (lookN [] A.live (firstR a)) t) H) kx kr) (proj (lookN [] A.live (firstR a)) t) H) kx kr
  | _ => fun _ _ _ => []
/-- The same loops, each begun. -/
noncomputable def bodiesK (A : Ann) (n : Nat) : Code → (Env → AHeap → Option β) → (Nat → Env → AHeap → Option β) → (Env → AHeap → Option β) → List (List AV → AHeap → Option β)
  | .seq a b => fun kn kx kr => bodiesK A n a (fun t H => execK P C A n b t H kn kx kr) kx kr ++ bodiesK A n b kn kx kr
  | .cond _ a b => fun kn kx kr => bodiesK A n a kn kx kr ++ bodiesK A n b kn kx kr
  | .block id a => fun kn kx kr => bodiesK A n a kn (fun i t H => match Nat.beq i id with
    | true => kn t H
    | false => kx i t H) kr
  | .loop a => fun _ kx kr => (fun s H => execK P C A n a (emb s (lookN [] A.live (firstR a)) 0) H (fun t H => fixL (fun s H k => execK P C A n a (emb s (lookN [] A.live (firstR a)) 0) H (fun t H => k (proj (lookN [] A.live (firstR a)) t) H) kx kr) (proj (lookN [] A.live (firstR a)) t) H) kx kr) ::
      bodiesK A n a (fun t H => fixL (fun s H k => execK P C A n a (emb s (lookN [] A.live (firstR a)) 0) H (fun t H => k (proj (lookN [] A.live (firstR a)) t) H) kx kr) (proj (lookN [] A.live (firstR a)) t) H) kx kr
  | _ => fun _ _ _ => []
end
section
variable (P : Program)
def ressK (n : Nat) (t : Env) (H : AHeap) : List ResultVar → (List AV → Option (AV × AHeap)) → Option (AV × AHeap)
  | [], k => k []
  | .tmp d :: rs, k => ressK n t H rs fun l => k (evalE n t (.tmp d) :: l)
  | .cell a ty :: rs, k => bnd (loadA P ty (evalE n t (.tmp a)) H) fun v _ => ressK n t H rs fun l => k (v :: l)
def endK (H : AHeap) : List AV → Option (AV × AHeap)
  | [x] => some (x, H)
  | xs => some (.tup xs, H)
def retK (n : Nat) (rs : List ResultVar) (t : Env) (H : AHeap) : Option (AV × AHeap) := ressK P n t H rs (endK H)
end
/-- F goes on at most once, and answers what comes then. -/
def Tail {β : Type} (F : (List AV → AHeap → Option β) → Option β) : Prop :=
  ∀ k r, F k = some r → (∀ k', F k' = some r) ∨ ∃ s H, k s H = some r ∧ ∀ k', k' s H = some r → F k' = some r
section
variable {β : Type}
theorem tl_const (x : Option β) : Tail fun _ => x := fun _ _ h => .inl fun _ => h
theorem tl_app (s : List AV) (H : AHeap) : Tail fun (k : List AV → AHeap → Option β) => k s H := fun _ _ h => .inr ⟨s, H, h, fun _ h => h⟩
theorem tl_bnd {x : Option (AV × AHeap)} {K : (List AV → AHeap → Option β) → AV → AHeap → Option β} (h : ∀ v H, Tail fun k => K k v H) : Tail fun k => bnd x (K k) := by
  rcases x with _ | ⟨v, H⟩
  · exact tl_const none
  · exact h v H
theorem tl_gd {b : Bool} {x : Option (AV × AHeap)} {H : AHeap} {K : (List AV → AHeap → Option β) → AV → AHeap → Option β} (h : ∀ v H, Tail fun k => K k v H) : Tail fun k => gd b x H (K k) := by
  cases b
  · exact h undefA H
  · exact tl_bnd h
theorem tl_gdA {g : Option AV} {want : Bool} {x : Option (AV × AHeap)} {H : AHeap} {K : (List AV → AHeap → Option β) → AV → AHeap → Option β} (h : ∀ v H, Tail fun k => K k v H) : Tail fun k => gdA g want x H (K k) := by
  unfold gdA
  cases guardB g want with
  | none => exact tl_const none
  | some b => exact tl_gd h
theorem tl_condK {c : AV} {x y : (List AV → AHeap → Option β) → Option β} (hx : Tail x) (hy : Tail y) : Tail fun k => condK c (x k) (y k) := by
  unfold condK
  split
  · exact hx
  · exact hy
  · exact tl_const none
variable {P : Program} {C : Callee}
theorem opK_eq {t : Operand → AV} {o : Oper} {H : AHeap} {k : AV → AHeap → Option β} : opK P C t o H k = bnd (opE P C t o H) k := by
  obtain ⟨dst, op, type, pos, after, guard⟩ := o
  have key : ∀ x : Option AV, bo x (fun v => k v H) = bnd (liftO x H) k := by intro x; cases x <;> rfl
  cases op <;> first | rfl | exact key _
theorem stepK_tail {n : Nat} {ops : List Oper} {lo : Bool} {o : Oper} {t : Env} {H : AHeap} {K : (List AV → AHeap → Option β) → AV → AHeap → Option β} (h : ∀ v H, Tail fun k => K k v H) : Tail fun k => stepK P C n ops lo o t H (K k) := by
  unfold stepK
  cases o.guard with
  | none =>
    cases lo with
    | false => simp only [opK_eq]; exact tl_bnd h
    | true => exact tl_bnd h
  | some g => cases lo <;> exact tl_gdA h
theorem opsK_tail {n : Nat} {ops : List Oper} {K : (List AV → AHeap → Option β) → Env → AHeap → Option β} (h : ∀ t H, Tail fun k => K k t H) : ∀ (l : List Oper) (t : Env) (H : AHeap), Tail fun k => opsK P C n ops l t H (K k)
  | [], t, H => h t H
  | o :: l, t, H => stepK_tail fun v H => opsK_tail h l _ H
theorem constK_tail {n : Nat} {K : (List AV → AHeap → Option β) → Env → AHeap → Option β} (h : ∀ t H, Tail fun k => K k t H) : ∀ (l : List Oper) (fs : List (Option Bool)) (t : Env) (H : AHeap), Tail fun k => constK P C n l fs t H (K k)
  | [], [], t, H => h t H
  | [], f :: fs, t, H => tl_const none
  | o :: l, [], t, H => tl_const none
  | o :: l, none :: fs, t, H => tl_bnd fun v H => constK_tail h l fs _ H
  | o :: l, some b :: fs, t, H => constK_tail h l fs t H
theorem ck_tail {w : Option Nat} {H H' : AHeap} {K : (List AV → AHeap → Option β) → Option β} (h : Tail K) : Tail fun k => ck w H H' (K k) := by
  unfold ck
  split
  · exact h
  · exact tl_const none
theorem ckL_tail {log : Log} {K : (List AV → AHeap → Option β) → Option β} (h : Tail K) : ∀ ps, Tail fun k => ckL log ps (K k)
  | [] => h
  | (j, e) :: ps => by
    simp only [ckL]
    cases logAt log j with
    | none => exact tl_const none
    | some x =>
      cases logAt log e with
      | none => exact tl_const none
      | some y => exact ck_tail (ckL_tail h ps)
theorem drawK_tail {n : Nat} {ops : List Oper} {ps : List (Nat × Nat)} {K : (List AV → AHeap → Option β) → Env → AHeap → Option β} (h : ∀ t H, Tail fun k => K k t H) : ∀ (l : List Oper) (fs : List (Option Bool)) (i : Nat) (t : Env) (H : AHeap) (log : Log), Tail fun k => drawK P C n ops ps l fs i t H log (K k)
  | [], [], i, t, H, log => ckL_tail (h t H) ps
  | [], f :: fs, i, t, H, log => tl_const none
  | o :: l, [], i, t, H, log => tl_const none
  | o :: l, none :: fs, i, t, H, log => drawK_tail h l fs (i + 1) t H log
  | o :: l, some lo :: fs, i, t, H, log => by
    exact stepK_tail fun v H' => drawK_tail h l fs (i + 1) _ H' _
theorem iterL_mono {B : List AV → AHeap → (List AV → AHeap → Option β) → Option β} (hB : ∀ s H, Tail (B s H)) : ∀ m s H r, iterL B m s H = some r → iterL B (m + 1) s H = some r := by
  intro m
  induction m with
  | zero => intro s H r h; cases h
  | succ m ih =>
    intro s H r h
    rcases hB s H _ r h with h1 | ⟨s', H', h1, h2⟩
    · exact h1 _
    · exact h2 _ (ih _ _ _ h1)
theorem fixL_eq {B : List AV → AHeap → (List AV → AHeap → Option β) → Option β} (hB : ∀ s H, Tail (B s H)) (s : List AV) (H : AHeap) : fixL B s H = B s H (fixL B) := by
  have up : ∀ r, B s H (fixL B) = some r → fixL B s H = some r := by
    intro r h
    rcases hB s H _ r h with h1 | ⟨s', H', h1, h2⟩
    · exact supA_eq (g := fun n => iterL B n s H) (fun n r => iterL_mono hB n s H r) (n := 1) (h1 _)
    · obtain ⟨m, hm⟩ := supA_some h1
      exact supA_eq (g := fun n => iterL B n s H) (fun n r => iterL_mono hB n s H r) (n := m + 1) (h2 _ hm)
  cases h : fixL B s H with
  | none =>
    cases h' : B s H (fixL B) with
    | none => rfl
    | some r => rw [up r h'] at h; cases h
  | some r =>
    obtain ⟨m, hm⟩ := supA_some h
    cases m with
    | zero => cases hm
    | succ m =>
      symm
      rcases hB s H _ r hm with h1 | ⟨s', H', h1, h2⟩
      · exact h1 _
      · exact h2 _ (supA_eq (g := fun n => iterL B n s' H') (fun n r => iterL_mono hB n s' H' r) h1)
theorem execK_tail {A : Ann} {n : Nat} : ∀ (c : Code) (t : Env) (H : AHeap) (kn : (List AV → AHeap → Option β) → Env → AHeap → Option β) (kx : (List AV → AHeap → Option β) → Nat → Env → AHeap → Option β) (kr : (List AV → AHeap → Option β) → Env → AHeap → Option β),
    (∀ t H, Tail fun k => kn k t H) → (∀ i t H, Tail fun k => kx k i t H) → (∀ t H, Tail fun k => kr k t H) → Tail fun k => execK P C A n c t H (kn k) (kx k) (kr k) := by
  intro c
  induction c with
  | skip => intro t H kn kx kr hn hx hr; exact hn t H
  | region id ops d =>
    intro t H kn kx kr hn hx hr
    simp only [execK]
    cases d with
    | false =>
      exact opsK_tail hn _ _ _
    | true =>
      exact constK_tail (fun v H => drawK_tail hn _ _ _ _ _ _) _ _ _ _
  | seq a b iha ihb =>
    intro t H kn kx kr hn hx hr
    exact iha t H (fun k t H => execK P C A n b t H (kn k) (kx k) (kr k)) kx kr (fun t H => ihb t H kn kx kr hn hx hr) hx hr
  | cond c a b iha ihb =>
    intro t H kn kx kr hn hx hr
    exact tl_condK (iha t H kn kx kr hn hx hr) (ihb t H kn kx kr hn hx hr)
  | block id a ih =>
    intro t H kn kx kr hn hx hr
    exact ih t H kn (fun k i t H => match Nat.beq i id with
      | true => kn k t H
      | false => kx k i t H) kr hn (fun i t H => by
      cases hb : Nat.beq i id with
      | true => simp only [hb]; exact hn t H
      | false => simp only [hb]; exact hx i t H) hr
  | loop a ih =>
    intro t H kn kx kr hn hx hr
    simp only [execK]
    generalize lookN [] A.live (firstR a) = M
    have it : ∀ m s H, Tail fun k => iterL (fun s H j => execK P C A n a (emb s M 0) H (fun t H => j (proj M t) H) (kx k) (kr k)) m s H := by
      intro m
      induction m with
      | zero => intro s H; exact tl_const none
      | succ m ihm => intro s H; exact ih _ H (fun k t H => iterL (fun s H j => execK P C A n a (emb s M 0) H (fun t H => j (proj M t) H) (kx k) (kr k)) m (proj M t) H) kx kr (fun t H => ihm _ H) hx hr
    have hB : ∀ (k : List AV → AHeap → Option β) s H, Tail ((fun s H j => execK P C A n a (emb s M 0) H (fun t H => j (proj M t) H) (kx k) (kr k)) s H) := fun k s H =>
      ih _ H (fun j t H => j (proj M t) H) (fun _ => kx k) (fun _ => kr k) (fun t H => tl_app _ _) (fun i t H => tl_const _) (fun t H => tl_const _)
    intro k r h
    obtain ⟨m, hm⟩ := supA_some h
    rcases it m _ _ k r hm with h1 | ⟨s', H', h1, h2⟩
    · exact .inl fun k' => supA_eq (fun n r => iterL_mono (hB k') n _ _ r) (h1 k')
    · exact .inr ⟨s', H', h1, fun k' hk => supA_eq (fun n r => iterL_mono (hB k') n _ _ r) (h2 k' hk)⟩
  | exit i => intro t H kn kx kr hn hx hr; exact hx i t H
  | ret => intro t H kn kx kr hn hx hr; exact hr t H
  | _ => intro t H kn kx kr hn hx hr; exact tl_const none
theorem loops_eq {A : Ann} {n : Nat} : ∀ (c : Code) (kn : Env → AHeap → Option β) (kx : Nat → Env → AHeap → Option β) (kr : Env → AHeap → Option β), loopsK P C A n c kn kx kr = bodiesK P C A n c kn kx kr := by
  intro c
  induction c with
  | seq a b iha ihb => intro kn kx kr; simp only [loopsK, bodiesK, iha, ihb]
  | cond c a b iha ihb => intro kn kx kr; simp only [loopsK, bodiesK, iha, ihb]
  | block id a ih => intro kn kx kr; simp only [loopsK, bodiesK, ih]
  | loop a ih =>
    intro kn kx kr
    simp only [loopsK, bodiesK, ih]
    congr 1
    funext s H
    exact fixL_eq (fun s H => execK_tail a _ H (fun j t H => j (proj _ t) H) (fun _ => kx) (fun _ => kr) (fun t H => tl_app _ _) (fun i t H => tl_const _) (fun t H => tl_const _)) s H
  | _ => intro kn kx kr; rfl
end

end Go.Proofs.YtjmldnpdfnklcaaDoor

namespace Go.Proofs.YtjmldnpdfnklcaaDoor

def tmpB : List Operand → Nat
  | [] => 0
  | .tmp d :: xs => 2 ^ d ||| tmpB xs
  | _ :: xs => tmpB xs
def remB (d L : Nat) : Nat := L ^^^ (L &&& 2 ^ d)
def guardD (ops : List Oper) (o : Oper) : Nat :=
  match o.guard with
  | none => 0
  | some (j, _) => match ops[j]? with
    | some p => match p.dst with
      | some d => 2 ^ d
      | none => 0
    | none => 0
def liveO (ops : List Oper) (o : Oper) (L : Nat) : Nat :=
  (tmpB o.op.operands.toList ||| guardD ops o) ||| (match o.dst with
    | some d => remB d L
    | none => L)
def liveOps (ops : List Oper) : List Oper → Nat → Nat
  | [], L => L
  | o :: os, L => liveO ops o (liveOps ops os L)
def liveC (ops : List Oper) : List Oper → List (Option Bool) → Nat → Nat
  | o :: os, none :: fs, L => liveO ops o (liveC ops os fs L)
  | _ :: os, some _ :: fs, L => liveC ops os fs L
  | _, _, L => L
def liveD (ops : List Oper) : List Oper → List (Option Bool) → Nat → Nat
  | o :: os, some _ :: fs, L => liveO ops o (liveD ops os fs L)
  | _ :: os, none :: fs, L => liveD ops os fs L
  | _, _, L => L
def maskB : List Nat → Nat
  | [] => 0
  | i :: M => 2 ^ i ||| maskB M
def liveK (A : Ann) : Code → Nat → (Nat → Nat) → Nat → Nat
  | .skip => fun Ln _ _ => Ln
  | .region id ops d => fun Ln _ _ => cond d (liveC ops.toList ops.toList (lookN [] A.draw id) (liveD ops.toList ops.toList (lookN [] A.draw id) Ln)) (liveOps ops.toList ops.toList Ln)
  | .seq a b => fun Ln Lx Lr => liveK A a (liveK A b Ln Lx Lr) Lx Lr
  | .cond c a b => fun Ln Lx Lr => tmpB [c] ||| (liveK A a Ln Lx Lr ||| liveK A b Ln Lx Lr)
  | .block id a => fun Ln Lx Lr => liveK A a Ln (fun i => cond (Nat.beq i id) Ln (Lx i)) Lr
  | .loop a => fun _ _ _ => maskB (lookN [] A.live (firstR a))
  | .exit i => fun _ Lx _ => Lx i
  | .ret => fun _ _ Lr => Lr
  | _ => fun _ _ _ => 0
def eqFl : List (Option Bool) → List (Option Bool) → Bool
  | [], [] => true
  | none :: a, none :: b => eqFl a b
  | some x :: a, some y :: b => (x == y) && eqFl a b
  | _, _ => false
def eqPs : List (Nat × Nat) → List (Nat × Nat) → Bool
  | [], [] => true
  | (a, b) :: l, (c, d) :: m => Nat.beq a c && (Nat.beq b d && eqPs l m)
  | _, _ => false
def chkK (A : Ann) (n : Nat) : Code → Nat → (Nat → Nat) → Nat → Bool
  | .region id ops d => fun _ _ _ => cond d (drawOk ops.toList && (eqPs (effPairs ops.toList) (lookN [] A.pairs id) && eqFl (drawFl ops.toList) (lookN [] A.draw id))) true
  | .seq a b => fun Ln Lx Lr => chkK A n a (liveK A b Ln Lx Lr) Lx Lr && chkK A n b Ln Lx Lr
  | .cond _ a b => fun Ln Lx Lr => chkK A n a Ln Lx Lr && chkK A n b Ln Lx Lr
  | .block id a => fun Ln Lx Lr => chkK A n a Ln (fun i => cond (Nat.beq i id) Ln (Lx i)) Lr
  | .loop a => fun _ Lx Lr => (let M := maskB (lookN [] A.live (firstR a)); let X := liveK A a M Lx Lr; Nat.beq (M ||| X) M && chkK A n a M Lx Lr)
  | _ => fun _ _ _ => true
structure Ag (n L : Nat) (t : Tmps) (e : Env) : Prop where
  len : t.length = n
  get : ∀ i, i < n → L.testBit i = true → t.getD i undefA = look e i
theorem Ag.sub {n L L' : Nat} {t : Tmps} {e : Env} (h : Ag n L t e) (hs : ∀ i, L'.testBit i = true → L.testBit i = true) : Ag n L' t e := ⟨h.len, fun i hn hi => h.get i hn (hs i hi)⟩
theorem Ag.left {n L L' : Nat} {t : Tmps} {e : Env} (h : Ag n (L ||| L') t e) : Ag n L t e := h.sub fun i hi => by rw [Nat.testBit_or, hi]; rfl
theorem Ag.right {n L L' : Nat} {t : Tmps} {e : Env} (h : Ag n (L ||| L') t e) : Ag n L' t e := h.sub fun i hi => by rw [Nat.testBit_or, hi]; simp
theorem blt_true {i n : Nat} (h : i < n) : Nat.blt i n = true := by simpa [Nat.blt_eq] using h
theorem blt_false {i n : Nat} (h : n ≤ i) : Nat.blt i n = false := by
  cases hb : Nat.blt i n with
  | false => rfl
  | true => rw [Nat.blt_eq] at hb; omega
theorem two_pow_bit {d : Nat} : (2 ^ d).testBit d = true := by rw [Nat.testBit_two_pow]; simp
theorem tmpB_mem : ∀ (xs : List Operand) (d : Nat), Operand.tmp d ∈ xs → (tmpB xs).testBit d = true
  | x :: xs, d, h => by
    rcases List.mem_cons.1 h with rfl | h
    · simp only [tmpB]; rw [Nat.testBit_or, two_pow_bit]; rfl
    · have := tmpB_mem xs d h
      cases x with
      | tmp e => simp only [tmpB]; rw [Nat.testBit_or, this]; simp
      | _ => exact this
theorem Ag.tmp {n L : Nat} {t : Tmps} {e : Env} (h : Ag n L t e) {d : Nat} (hd : L.testBit d = true) : t.getD d undefA = evalE n e (.tmp d) := by
  have hl := h.len
  rcases Nat.lt_or_ge d n with h1 | h1
  · simp only [evalE, blt_true h1, cond_true]; exact h.get d h1 hd
  · simp only [evalE, blt_false h1, cond_false]
    simp [List.getD, hl, h1]
theorem Ag.eval {n : Nat} {xs : List Operand} {t : Tmps} {e : Env} (h : Ag n (tmpB xs) t e) {x : Operand} (hx : x ∈ xs) : evalA t x = evalE n e x := by
  cases x with
  | tmp d => exact h.tmp (tmpB_mem xs d hx)
  | _ => rfl
theorem Ag.put {n L : Nat} {t : Tmps} {e : Env} {o : Oper} {ops : List Oper} (h : Ag n (liveO ops o L) t e) (v : AV) : Ag n L (putA t o.dst v) (putK e o.dst v) := by
  have h2 := h.right
  cases hd : o.dst with
  | none => rw [hd] at h2; exact h2
  | some d =>
    rw [hd] at h2
    have hl := h.len
    refine ⟨by simp [putA, h.len], fun i hn hi => ?_⟩
    by_cases hid : d = i
    · subst hid
      simp only [putA, putK, look, Nat.beq_refl, cond_true]; rw [getD_set_eq (by omega)]
    · have hb : Nat.beq d i = false := Bool.eq_false_iff.2 fun h => hid (Nat.eq_of_beq_eq_true h)
      simp only [putA, putK, look, hb, cond_false]; rw [getD_set_ne hid]
      refine h2.get i hn ?_
      simp only [remB, Nat.testBit_xor, Nat.testBit_and, Nat.testBit_two_pow, hi, hid]
      simp
section
variable {β : Type} {P : Program} {C : Callee} {n : Nat}
theorem opA_E {t : Tmps} {o : Oper} : opA P C t o = opE P C (evalA t) o := by
  obtain ⟨dst, op, type, pos, after, guard⟩ := o
  cases op <;> first | rfl | (rename_i x; cases x <;> rfl) | (rename_i x y; cases y <;> rfl)
theorem opE_congr {ev ev' : Operand → AV} {o : Oper} (h : ∀ x ∈ o.op.operands.toList, ev x = ev' x) : opE P C ev o = opE P C ev' o := by
  obtain ⟨dst, op, type, pos, after, guard⟩ := o
  have mp : ∀ (ps : Array (Nat × Operand)), (∀ x ∈ (ps.toList.map (·.2)), ev x = ev' x) → ps.toList.map (fun p => (p.1, ev p.2)) = ps.toList.map fun p => (p.1, ev' p.2) := fun ps hp =>
    List.map_congr_left fun p hm => by rw [hp p.2 (List.mem_map.2 ⟨p, hm, rfl⟩)]
  have om : ∀ (x : Option Operand), (∀ y ∈ x.toArray.toList, ev y = ev' y) → x.map ev = x.map ev' := fun x hx => by
    cases x with
    | none => rfl
    | some y => simp only [Option.map_some, hx y (by simp)]
  simp only at h
  cases op with
  | build ty ps => simp only [opE, mp ps fun x hx => h x (by simpa [Op.operands] using hx)]
  | buildSlice ty m ps => simp only [opE, mp ps fun x hx => h x (by simpa [Op.operands] using hx)]
  | makeFunc f a c =>
    simp only [opE]
    rw [List.map_congr_left (f := ev) (g := ev') (l := a.toList) fun x hx => h x (by simp [Op.operands]; exact .inl (by simpa using hx)), List.map_congr_left (f := ev) (g := ev') (l := c.toList) fun x hx => h x (by simp [Op.operands]; exact .inr (by simpa using hx))]
  | makeMap ty r => cases r <;> rfl
  | slice ty x lo hi mx =>
    simp only [opE]
    rw [h x (by simp [Op.operands]), om lo fun y hy => h y (by simp [Op.operands]; exact .inr (.inl (by simpa using hy))), om hi fun y hy => h y (by simp [Op.operands]; exact .inr (.inr (.inl (by simpa using hy)))), om mx fun y hy => h y (by simp [Op.operands]; exact .inr (.inr (.inr (by simpa using hy))))]
  | call c =>
    obtain ⟨cal, args, tys⟩ := c
    have ha : args.toList.map ev = args.toList.map ev' := List.map_congr_left fun x hx => h x (by simp [Op.operands, Call.operands]; exact .inr (by simpa using hx))
    cases cal with
    | value f =>
      simp only [opE]
      funext H
      simp only [callE]
      rw [ha, h f (by simp [Op.operands, Call.operands])]
    | builtin b =>
      simp only [opE]
      funext H
      simp only [callE]
      rw [ha]
    | invoke r m => rfl
  | _ => first | rfl | (simp only [opE, h _ (show _ from (by simp [Op.operands]))]; done) | (simp [Op.operands] at h; simp only [opE, h])
theorem Ag.op {L : Nat} {t : Tmps} {e : Env} {ops : List Oper} {o : Oper} (h : Ag n (liveO ops o L) t e) : opA P C t o = opE P C (evalE n e) o := by
  rw [opA_E]; exact opE_congr fun x hx => h.left.left.eval hx
/-- Whatever x answers, y answers. -/
def Le (x y : Option β) : Prop := ∀ r, x = some r → y = some r
theorem Le.refl (x : Option β) : Le x x := fun _ h => h
theorem Le.bnd {α : Type} {x : Option (α × AHeap)} {k k' : α → AHeap → Option β} (h : ∀ v H, Le (k v H) (k' v H)) : Le (bnd x k) (bnd x k') := by
  rcases x with _ | ⟨v, H⟩
  · exact Le.refl _
  · exact h v H
theorem stepK_le {L : Nat} {t : Tmps} {e : Env} {ops : List Oper} {lo : Bool} {o : Oper} (h : Ag n (liveO ops o L) t e) {H : AHeap} {k k' : AV → AHeap → Option β} (hk : ∀ v H, Le (k' v H) (k v H)) : Le (stepK P C n ops lo o e H k') (bnd (stepA P C ops lo o t H) k) := by
  have hop : opA P C t o = opE P C (evalE n e) o := h.op
  unfold stepK stepA
  cases hg : o.guard with
  | none =>
    simp only [wantedA, hg]
    cases lo with
    | false => simp only [Bool.false_eq_true, if_false, opK_eq, hop]; exact Le.bnd hk
    | true =>
      simp only [if_true, opG, hop]
      exact Le.bnd hk
  | some gd =>
    obtain ⟨j, want⟩ := gd
    rw [wanted_guard hg]
    have h1 := h.left.right
    simp only [guardD, hg] at h1
    have hgv : ∀ v, guardK n ops e j = some v → guardV ops t j = some v := by
      intro v hv
      unfold guardK at hv
      unfold guardV
      cases hp : ops[j]? with
      | none => rw [hp] at hv; cases hv
      | some p =>
        rw [hp] at hv h1
        simp only at hv h1
        simp only [Option.bind_some]
        cases hd : p.dst with
        | none => rw [hd] at hv; cases hv
        | some d =>
          rw [hd] at hv h1
          simp only at hv h1
          simp only [Option.bind_some]
          rcases Nat.lt_or_ge d n with hl | hl
          · rw [blt_true hl] at hv
            have := h1.len
            rw [getElem?_getD (by omega), h1.get d hl two_pow_bit]
            exact hv
          · rw [blt_false hl] at hv; cases hv
    simp only
    cases hk' : guardK n ops e j with
    | none => intro r hr; cases lo <;> simp [gdA, guardB] at hr
    | some v =>
      rw [hgv v hk']
      simp only [gdA]
      cases guardB (some v) want with
      | none => intro r hr; cases lo <;> cases hr
      | some b =>
        cases b
        · cases lo <;> exact hk _ _
        · cases lo with
          | false => simp only [gd, if_true, Bool.false_eq_true, if_false, hop]; exact Le.bnd hk
          | true => simp only [gd, if_true, opG, hop]; exact Le.bnd hk
theorem opsK_le {ops : List Oper} {L : Nat} {k : Tmps → AHeap → Option β} {k' : Env → AHeap → Option β} (hk : ∀ t e H, Ag n L t e → Le (k' e H) (k t H)) : ∀ (l : List Oper) (t : Tmps) (e : Env) (H : AHeap), Ag n (liveOps ops l L) t e → Le (opsK P C n ops l e H k') (bnd (opsA P C ops l t H) k)
  | [], t, e, H, h => hk t e H h
  | o :: l, t, e, H, h => by
    rw [opsA_cons]
    have := stepK_le (P := P) (C := C) (lo := false) h (H := H) (k := fun v H => bnd (opsA P C ops l (putA t o.dst v) H) k) (k' := fun v H => opsK P C n ops l (putK e o.dst v) H k') fun v H => opsK_le hk l _ _ H (h.put v)
    refine fun r hr => ?_
    have h2 := this r hr
    cases hs : stepA P C ops false o t H with
    | none => rw [hs] at h2; cases h2
    | some q => rw [hs] at h2; exact h2
theorem constK_le {ops : List Oper} {L : Nat} {k : Tmps → AHeap → Option β} {k' : Env → AHeap → Option β} (hk : ∀ t e H, Ag n L t e → Le (k' e H) (k t H)) : ∀ (l : List Oper) (fs : List (Option Bool)) (t : Tmps) (e : Env) (H : AHeap), Ag n (liveC ops l fs L) t e → Le (constK P C n l fs e H k') (bnd (constL P C l (fs.map fun f => f.isNone) t H) k)
  | [], [], t, e, H, h => hk t e H h
  | [], f :: fs, t, e, H, h => fun r hr => by cases hr
  | o :: l, [], t, e, H, h => fun r hr => by cases hr
  | o :: l, none :: fs, t, e, H, h => by
    simp only [constK, List.map_cons, Option.isNone_none, constL]
    rw [Ag.op (P := P) (C := C) h]
    cases opE P C (evalE n e) o H with
    | none => exact Le.refl _
    | some q => exact constK_le hk l fs _ _ _ (Ag.put h _)
  | o :: l, some b :: fs, t, e, H, h => constK_le hk l fs _ _ H h
theorem watch_E {t : Tmps} {ev : Operand → AV} {o : Oper} (h : ∀ x ∈ o.op.operands.toList, evalA t x = ev x) : watchA t o.op = watchE ev o.op := by
  obtain ⟨dst, op, type, pos, after, guard⟩ := o
  simp only at h
  cases op with
  | call c =>
    obtain ⟨cal, args, tys⟩ := c
    simp only [watchA, watchE]
    have ha : ∀ x ∈ args.toList, evalA t x = ev x := fun x hx => h x (by simp [Op.operands, Call.operands]; exact .inr (by simpa using hx))
    generalize args.toList = l at ha
    match l with
    | [] => rfl
    | [x] => simp only [ha x (by simp)]
    | x :: y :: l => rfl
  | _ => first | rfl | (simp [Op.operands] at h; simp only [watchA, watchE, h])
/-- The way of a drawn region, as its log tells. -/
theorem drawK_run {ops : List Oper} {ps : List (Nat × Nat)} {t0 : Tmps} {H0 : AHeap} {L : Nat} {k' : Env → AHeap → Option β} {r : β} : ∀ (l : List Oper) (i : Nat) (t : Tmps) (e : Env) (H : AHeap) (log : Log), i + l.length = ops.length → ops.drop i = l → stAt P C ops i t0 H0 = some (t, H) →
    Ag n (liveD ops l ((List.range' i l.length).map fun i => if cst ops i = true then none else some (loose ops i && isCall (getOp ops i))) L) t e →
    (∀ j w Ha Hb, logAt log j = some (w, Ha, Hb) → ∃ ta tb, stAt P C ops j t0 H0 = some (ta, Ha) ∧ w = watchA ta (getOp ops j) ∧ stAt P C ops (j + 1) t0 H0 = some (tb, Hb)) →
    drawK P C n ops ps l ((List.range' i l.length).map fun i => if cst ops i = true then none else some (loose ops i && isCall (getOp ops i))) i e H log k' = some r →
    ∃ t' e' H', drawRun P C ops (restIdx ops) t0 H0 = some (t', H') ∧ (∀ p ∈ ps, agree P C ops t0 H0 p) ∧ Ag n L t' e' ∧ k' e' H' = some r
  | [], i, t, e, H, log, hl, hd, hs, hag, hlog, h => by
    have hi : i = ops.length := by simpa using hl
    subst hi
    refine ⟨t, e, H, hs, ?_⟩
    simp only [List.length_nil, List.range'_zero, List.map_nil, drawK] at h
    have hag' : Ag n L t e := hag
    clear hs hd hl hag
    induction ps with
    | nil => exact ⟨fun p hp => (by simp at hp), hag', h⟩
    | cons p ps ih =>
      obtain ⟨j, e'⟩ := p
      simp only [ckL] at h
      cases hj : logAt log j with
      | none => rw [hj] at h; cases h
      | some x =>
        obtain ⟨w, Hx, Hy⟩ := x
        cases he : logAt log e' with
        | none => rw [hj, he] at h; cases h
        | some y =>
          obtain ⟨w', Ha, Hb⟩ := y
          rw [hj, he] at h
          simp only [ck] at h
          split at h
          · rename_i hck
            obtain ⟨i1, i2⟩ := ih h
            refine ⟨fun p hp => ?_, i2⟩
            rcases List.mem_cons.1 hp with rfl | hp
            · intro tj Hj te He te' He' q1 q2 q3 r hr
              obtain ⟨ta, tb, s1, s2, s3⟩ := hlog j w Hx Hy hj
              obtain ⟨ta', tb', s4, s5, s6⟩ := hlog e' w' Ha Hb he
              rw [s1] at q1; rw [s4] at q2; rw [s6] at q3
              cases q1; cases q2; cases q3
              exact hck r (by rw [s2]; exact hr)
            · exact i1 p hp
          · cases h
  | o :: l, i, t, e, H, log, hl, hd, hs, hag, hlog, h => by
    have hi : i < ops.length := by simp at hl; omega
    have ho : ops[i]? = some o := by
      have := List.getElem?_drop (xs := ops) (i := i) (j := 0)
      rw [hd] at this
      simpa using this.symm
    have hd' : ops.drop (i + 1) = l := by
      rw [← List.drop_drop, hd]; rfl
    rw [List.length_cons, List.range'_succ, List.map_cons] at h hag
    cases hc : cst ops i with
    | true =>
      simp only [hc, if_true, drawK] at h
      simp only [hc, if_true, liveD] at hag
      refine drawK_run l (i + 1) t e H log (by simp at hl; omega) hd' ?_ hag hlog h
      rw [stAt_succ, hs]
      simp [hc]
    | false =>
      simp only [hc, Bool.false_eq_true, if_false, drawK] at h
      simp only [hc, Bool.false_eq_true, if_false, liveD] at hag
      rw [getOp_eq ho] at h
      have hw : watchA t o.op = watchE (evalE n e) o.op := watch_E fun x hx => Ag.eval (Ag.left (Ag.left hag)) hx
      have key := stepK_le (P := P) (C := C) (lo := loose ops i && isCall o.op) hag (H := H) (β := β)
        (k := fun v H' => drawK P C n ops ps l ((List.range' (i + 1) l.length).map fun i => if cst ops i = true then none else some (loose ops i && isCall (getOp ops i))) (i + 1) (putK e o.dst v) H' ((i, watchE (evalE n e) o.op, H, H') :: log) k')
        (fun v H => Le.refl _) r h
      cases hst : stepA P C ops (loose ops i && isCall o.op) o t H with
      | none => rw [hst] at key; cases key
      | some q =>
        obtain ⟨v, H'⟩ := q
        rw [hst] at key
        simp only [bnd] at key
        have hs' : stAt P C ops (i + 1) t0 H0 = some (putA t o.dst v, H') := by
          rw [stAt_succ, hs]
          simp [hc, ho, hst, drawRun]
        refine drawK_run l (i + 1) _ _ H' _ (by simp at hl; omega) hd' hs' (Ag.put hag v) (fun j w Ha Hb hj => ?_) key
        simp only [logAt] at hj
        cases hb : Nat.beq i j with
        | true =>
          have : i = j := Nat.eq_of_beq_eq_true hb
          subst this
          rw [hb] at hj
          simp only [cond_true, Option.some.injEq, Prod.mk.injEq] at hj
          obtain ⟨rfl, rfl, rfl⟩ := hj
          exact ⟨t, _, hs, by rw [getOp_eq ho, hw], hs'⟩
        | false =>
          rw [hb] at hj
          exact hlog j w Ha Hb hj
theorem mem_mask {i : Nat} : ∀ {M : List Nat}, (maskB M).testBit i = true → i ∈ M
  | [], h => by simp [maskB] at h
  | m :: M, h => by
    simp only [maskB, Nat.testBit_or, Nat.testBit_two_pow, Bool.or_eq_true, decide_eq_true_eq] at h
    rcases h with rfl | h
    · simp
    · exact List.mem_cons_of_mem _ (mem_mask h)
theorem look_emb {e : Env} : ∀ (M pre : List Nat) (i : Nat), i ∈ M → look (emb (proj (pre ++ M) e) M pre.length) i = look e i
  | m :: M, pre, i, h => by
    simp only [emb, look]
    cases hb : Nat.beq m i with
    | true =>
      have : m = i := Nat.eq_of_beq_eq_true hb
      subst this
      simp only [cond_true]
      have : ∀ pre : List Nat, (proj (pre ++ m :: M) e).getD pre.length undefA = look e m := by
        intro pre
        induction pre with
        | nil => rfl
        | cons x pre ih => exact ih
      exact this pre
    | false =>
      simp only [cond_false]
      have hne : i ≠ m := fun e => by subst e; rw [show Nat.beq i i = true from Nat.beq_refl i] at hb; cases hb
      have := look_emb (e := e) M (pre ++ [m]) i ((List.mem_cons.1 h).resolve_left hne)
      simpa using this
theorem Ag.emb {M : List Nat} {t : Tmps} {e : Env} (h : Ag n (maskB M) t e) : Ag n (maskB M) t (Go.Proofs.YtjmldnpdfnklcaaDoor.emb (proj M e) M 0) := by
  refine ⟨h.len, fun i hn hi => ?_⟩
  have := look_emb (e := e) M [] i (mem_mask hi)
  simp only [List.nil_append, List.length_nil] at this
  rw [this]; exact h.get i hn hi
def finK (kn : Tmps → AHeap → Option β) (kx : Nat → Tmps → AHeap → Option β) (kr : Tmps → AHeap → Option β) : Res → Option β
  | some (.normal, t, H) => kn t H
  | some (.exit i, t, H) => kx i t H
  | some (.ret, t, H) => kr t H
  | none => none
variable {kn : Tmps → AHeap → Option β} {kx : Nat → Tmps → AHeap → Option β} {kr : Tmps → AHeap → Option β}
theorem fin_okN {x : Option (Tmps × AHeap)} : finK kn kx kr (okN x) = bnd x kn := by rcases x with _ | ⟨t, H⟩ <;> rfl
theorem fin_then {r : Res} {g : Run} : finK kn kx kr (thenA r g) = finK (fun t H => finK kn kx kr (g t H)) kx kr r := by
  rcases r with _ | ⟨e, t, H⟩
  · rfl
  · cases e <;> rfl
theorem fin_block {id : Nat} {r : Res} : finK kn kx kr (blockA id r) = finK kn (fun i t H => match Nat.beq i id with
  | true => kn t H
  | false => kx i t H) kr r := by
  rcases r with _ | ⟨e, t, H⟩
  · rfl
  · cases e with
    | exit i =>
      simp only [blockA, finK]
      by_cases hi : i = id
      · subst hi
        simp only [if_true, Nat.beq_refl]
      · have : Nat.beq i id = false := Bool.eq_false_iff.2 fun h => hi (Nat.eq_of_beq_eq_true h)
        simp only [hi, if_false, this]
    | normal => rfl
    | ret => rfl
theorem fin_cond {c : AV} {x y : Res} : finK kn kx kr (condA c x y) = condK c (finK kn kx kr x) (finK kn kx kr y) := by
  unfold condA condK
  split <;> first | rfl | skip
  all_goals (try (split <;> first | rfl | contradiction))
theorem eqFl_eq : ∀ {a b : List (Option Bool)}, eqFl a b = true → a = b
  | [], [], _ => rfl
  | none :: a, none :: b, h => by rw [eqFl_eq (a := a) (b := b) h]
  | some x :: a, some y :: b, h => by
    simp only [eqFl, Bool.and_eq_true, beq_iff_eq] at h
    rw [h.1, eqFl_eq h.2]
  | [], _ :: _, h => by cases h
  | none :: _, [], h => by cases h
  | some _ :: _, [], h => by cases h
  | none :: _, some _ :: _, h => by cases h
  | some _ :: _, none :: _, h => by cases h
theorem eqPs_eq : ∀ {a b : List (Nat × Nat)}, eqPs a b = true → a = b
  | [], [], _ => rfl
  | (a, b) :: l, (c, d) :: m, h => by
    simp only [eqPs, Bool.and_eq_true] at h
    rw [Nat.eq_of_beq_eq_true h.1, Nat.eq_of_beq_eq_true h.2.1, eqPs_eq h.2.2]
  | [], _ :: _, h => by cases h
  | _ :: _, [], h => by cases h
open Classical in
theorem exec_live (A : Ann) : ∀ (c : Code) (Ln : Nat) (Lx : Nat → Nat) (Lr : Nat), chkK A n c Ln Lx Lr = true → ∀ (kn : Tmps → AHeap → Option β) (kn' : Env → AHeap → Option β) (kx : Nat → Tmps → AHeap → Option β) (kx' : Nat → Env → AHeap → Option β) (kr : Tmps → AHeap → Option β) (kr' : Env → AHeap → Option β),
    (∀ t t' H, Ag n Ln t t' → Le (kn' t' H) (kn t H)) → (∀ i t t' H, Ag n (Lx i) t t' → Le (kx' i t' H) (kx i t H)) → (∀ t t' H, Ag n Lr t t' → Le (kr' t' H) (kr t H)) →
    ∀ t t' H, Ag n (liveK A c Ln Lx Lr) t t' → Le (execK P C A n c t' H kn' kx' kr') (finK kn kx kr (execA P C c t H)) := by
  intro c
  induction c with
  | skip => intro Ln Lx Lr hc kn kn' kx kx' kr kr' hn hx hr t t' H h; exact hn t t' H h
  | region id ops d =>
    intro Ln Lx Lr hc kn kn' kx kx' kr kr' hn hx hr t t' H h
    cases d with
    | false =>
      rw [exec_region, fin_okN]
      exact opsK_le hn _ t t' H h
    | true =>
      simp only [chkK, cond_true, Bool.and_eq_true] at hc
      obtain ⟨h1, h2, h3⟩ := hc
      have h2 := eqPs_eq h2
      have h3 := eqFl_eq h3
      have hfc : (lookN [] A.draw id).map (fun f => f.isNone) = constFl ops.toList := by
        rw [← h3, drawFl, constFl, List.map_map]
        apply List.map_congr_left
        intro i _
        simp only [Function.comp]
        cases cst ops.toList i <;> rfl
      rw [exec_draw, fin_okN]
      have e1 : constRun P C ops.toList (constIdx ops.toList) t H = constL P C ops.toList (constFl ops.toList) t H := by
        have := constL_eq (P := P) (C := C) (ops := ops.toList) ops.toList [] t H rfl
        simpa [constIdx, constFl, List.range_eq_range'] using this
      have hfl : lookN [] A.draw id = (List.range' 0 ops.toList.length).map fun i => if cst ops.toList i = true then none else some (loose ops.toList i && isCall (getOp ops.toList i)) := by
        rw [← h3, drawFl, List.range_eq_range']
      refine fun r hr0 => ?_
      have hr1 := constK_le (P := P) (C := C) (β := β) (ops := ops.toList) (L := liveD ops.toList ops.toList (lookN [] A.draw id) Ln)
        (k := fun t0 H0 => if (∀ p ∈ lookN [] A.pairs id, agree P C ops.toList t0 H0 p) then bnd (drawRun P C ops.toList (restIdx ops.toList) t0 H0) kn else none)
        (k' := fun t H => drawK P C n ops.toList (lookN [] A.pairs id) ops.toList (lookN [] A.draw id) 0 t H [] kn') (fun t0 e0 H0 ht r hr => by
          rw [hfl] at hr ht
          obtain ⟨t1, e1, H1, d1, d2, d3, d4⟩ := drawK_run (t0 := t0) (H0 := H0) ops.toList 0 t0 e0 H0 [] (by simp) (by simp) (by simp [stAt, drawRun]) ht (fun j w Ha Hb hj => by cases hj) hr
          rw [if_pos d2, d1]
          exact hn t1 e1 H1 d3 r d4) ops.toList (lookN [] A.draw id) t t' H h r hr0
      rw [hfc] at hr1
      cases hcl : constL P C ops.toList (constFl ops.toList) t H with
      | none => rw [hcl] at hr1; cases hr1
      | some q =>
        obtain ⟨t0, H0⟩ := q
        rw [hcl] at hr1
        simp only [bnd] at hr1
        split at hr1
        · rename_i d2
          have : drawA P C ops.toList t H = drawRun P C ops.toList (restIdx ops.toList) t0 H0 := by
            unfold drawA
            rw [if_pos h1, e1, hcl]
            simp only
            rw [← h2] at d2
            split
            · rfl
            · rw [if_pos d2]
          rw [this]; exact hr1
        · cases hr1
  | seq a b iha ihb =>
    intro Ln Lx Lr hc kn kn' kx kx' kr kr' hn hx hr t t' H h
    simp only [chkK, Bool.and_eq_true] at hc
    rw [exec_seq, fin_then]
    exact iha _ Lx Lr hc.1 _ _ kx kx' kr kr' (fun t t' H ht => ihb Ln Lx Lr hc.2 kn kn' kx kx' kr kr' hn hx hr t t' H ht) hx hr t t' H h
  | cond c a b iha ihb =>
    intro Ln Lx Lr hc kn kn' kx kx' kr kr' hn hx hr t t' H h
    simp only [chkK, Bool.and_eq_true] at hc
    have ha := iha Ln Lx Lr hc.1 kn kn' kx kx' kr kr' hn hx hr t t' H h.right.left
    have hb := ihb Ln Lx Lr hc.2 kn kn' kx kx' kr kr' hn hx hr t t' H h.right.right
    rw [exec_cond, fin_cond, h.left.eval (x := c) (List.mem_singleton.2 rfl)]
    show Le (condK (evalE n t' c) _ _) _
    unfold condK
    split
    · exact ha
    · exact hb
    · exact Le.refl _
  | block id a ih =>
    intro Ln Lx Lr hc kn kn' kx kx' kr kr' hn hx hr t t' H h
    rw [exec_block, fin_block]
    refine ih Ln _ Lr hc kn kn' _ _ kr kr' hn (fun i t t' H ht => ?_) hr t t' H h
    cases hb : Nat.beq i id with
    | true => simp only [hb, cond_true] at ht ⊢; exact hn t t' H ht
    | false => simp only [hb, cond_false] at ht ⊢; exact hx i t t' H ht
  | loop a ih =>
    intro Ln Lx Lr hc kn kn' kx kx' kr kr' hn hx hr t t' H h
    simp only [chkK, Bool.and_eq_true] at hc
    simp only [liveK] at h
    simp only [execK]
    generalize lookN [] A.live (firstR a) = M at hc h ⊢
    obtain ⟨hs, hc⟩ := hc
    have hs : maskB M ||| liveK A a (maskB M) Lx Lr = maskB M := Nat.eq_of_beq_eq_true hs
    have hsub : ∀ i, (liveK A a (maskB M) Lx Lr).testBit i = true → (maskB M).testBit i = true := fun i hi => by rw [← hs, Nat.testBit_or, hi]; simp
    let B : List AV → AHeap → (List AV → AHeap → Option β) → Option β := fun s H k => execK P C A n a (emb s M 0) H (fun t H => k (proj M t) H) kx' kr'
    have it : ∀ m t t' H, Ag n (maskB M) t t' → Le (iterL B m (proj M t') H) (finK kn kx kr (iterA (execA P C a) m t H)) := by
      intro m
      induction m with
      | zero => intro t t' H _ r hr; cases hr
      | succ m ihm =>
        intro t t' H ht
        show Le (execK P C A n a (emb (proj M t') M 0) H (fun t H => iterL B m (proj M t) H) kx' kr') (finK kn kx kr (thenA (execA P C a t H) (iterA (execA P C a) m)))
        rw [fin_then]
        exact ih (maskB M) Lx Lr hc _ _ kx kx' kr kr' (fun t t' H hh => ihm t t' H hh) hx hr _ _ H (ht.emb.sub hsub)
    rw [show execA P C (.loop a) = loopA (execA P C a) from rfl]
    intro r hf
    obtain ⟨m, hm⟩ := supA_some hf
    have hm := it m t t' H h r hm
    cases hr : iterA (execA P C a) m t H with
    | none => rw [hr] at hm; cases hm
    | some q => rw [show loopA (execA P C a) t H = some q from supA_eq (fun n r => iterA_mono n t H r) hr, ← hr]; exact hm
  | exit i => intro Ln Lx Lr hc kn kn' kx kx' kr kr' hn hx hr t t' H h; exact hx i t t' H h
  | ret => intro Ln Lx Lr hc kn kn' kx kx' kr kr' hn hx hr t t' H h; exact hr t t' H h
  | _ => intro Ln Lx Lr hc kn kn' kx kx' kr kr' hn hx hr t t' H h r hr; cases hr
end
def resB : List ResultVar → Nat
  | [] => 0
  | .tmp d :: rs => 2 ^ d ||| resB rs
  | .cell a _ :: rs => 2 ^ a ||| resB rs
theorem ressK_eq {P : Program} {n : Nat} {t : Tmps} {e : Env} {H : AHeap} : ∀ (rs : List ResultVar) (k : List AV → Option (AV × AHeap)), Ag n (resB rs) t e → ressK P n e H rs k = (rs.mapM (resA P t H)).bind k
  | [], k, _ => by simp [ressK]
  | .tmp d :: rs, k, h => by
    rw [List.mapM_cons, ressK, ressK_eq rs _ h.right, ← h.left.tmp two_pow_bit]
    simp only [resA, Option.bind_eq_bind, Option.bind_some, Option.pure_def]
    cases rs.mapM (resA P t H) <;> rfl
  | .cell a ty :: rs, k, h => by
    rw [List.mapM_cons, ressK, ← h.left.tmp two_pow_bit]
    simp only [resA]
    cases loadA P ty (t.getD a undefA) H with
    | none => rfl
    | some r =>
      simp only [bnd, Option.map_some, Option.bind_eq_bind, Option.bind_some, Option.pure_def]
      rw [ressK_eq rs _ h.right]
      cases rs.mapM (resA P t H) <;> rfl
theorem retK_eq {P : Program} {n : Nat} {t : Tmps} {e : Env} {H : AHeap} (rs : List ResultVar) (h : Ag n (resB rs) t e) : (resultsA P rs t H).map (fun v => (v, H)) = retK P n rs e H := by
  unfold retK resultsA
  rw [ressK_eq rs _ h]
  cases rs.mapM (resA P t H) with
  | none => rfl
  | some l =>
    simp only [Option.bind_some]
    match l with
    | [] => rfl
    | [x] => rfl
    | x :: y :: l => rfl
def chkF (A : Ann) (fn : Func) (c : Code) : Bool := chkK A fn.ntmps c (resB fn.results.toList) (fun _ => 0) (resB fn.results.toList)
theorem look_env (n : Nat) : ∀ (args : List AV) (i j : Nat), j < n → (args ++ List.replicate (n - args.length) undefA).getD j undefA = look (envOf args i) (i + j)
  | [], i, j, hj => by
    simp [envOf, look, List.getD, hj]
  | a :: args, i, 0, _ => by simp [envOf, look]
  | a :: args, i, j + 1, hj => by
    have hb : Nat.beq i (i + (j + 1)) = false := Bool.eq_false_iff.2 fun h => by have := Nat.eq_of_beq_eq_true h; omega
    simp only [envOf, look, hb, cond_false]
    have := look_env (n - 1) args (i + 1) j (by omega)
    rw [show i + (j + 1) = i + 1 + j by omega, ← this]
    simp only [List.length_cons, List.cons_append, List.getD_cons_succ]
    rw [show n - (args.length + 1) = n - 1 - args.length by omega]
theorem runF_K {P : Program} {C : Callee} {A : Ann} {f : FuncId} {fn : Func} {c : Code} {args : List AV} {H : AHeap} (hf : P.funcs[f]? = some fn) (hb : fn.body = some c) (hl : Nat.ble args.length fn.ntmps = true) (hc : chkF A fn c = true) {r : AV × AHeap}
    (h : execK P C A fn.ntmps c (envOf args 0) H (retK P fn.ntmps fn.results.toList) (fun _ _ _ => none) (retK P fn.ntmps fn.results.toList) = some r) : runF P C f args H = some r := by
  rw [runF_eq hf hb]
  have key : ∀ r : Res, retA P fn.results.toList r = finK (fun t H => (resultsA P fn.results.toList t H).map fun v => (v, H)) (fun _ _ _ => none) (fun t H => (resultsA P fn.results.toList t H).map fun v => (v, H)) r := by
    intro r
    rcases r with _ | ⟨e, t, H⟩
    · rfl
    · cases e <;> rfl
  rw [key]
  have hl : args.length ≤ fn.ntmps := Nat.le_of_ble_eq_true hl
  have hlen : (args ++ List.replicate (fn.ntmps - args.length) undefA).length = fn.ntmps := by simp; omega
  have hr : ∀ t e H, Ag fn.ntmps (resB fn.results.toList) t e → Le (retK P fn.ntmps fn.results.toList e H) ((resultsA P fn.results.toList t H).map fun v => (v, H)) := fun t e H h => by
    rw [retK_eq _ h]; exact Le.refl _
  exact exec_live A c _ _ _ hc _ _ _ _ _ _ hr (fun _ _ _ _ _ => Le.refl _) hr _ _ H ⟨hlen, fun i hn _ => by have := look_env fn.ntmps args 0 i hn; rwa [Nat.zero_add] at this⟩ r h

end Go.Proofs.YtjmldnpdfnklcaaDoor

namespace Go.Proofs.YtjmldnpdfnklcaaDoor

@[congr] theorem bnd_congr {α β : Type} {x y : Option (α × AHeap)} {k : α → AHeap → Option β} (h : x = y) : bnd x k = bnd y k := by rw [h]
@[congr] theorem bo_congr {α β : Type} {x y : Option α} {k : α → Option β} (h : x = y) : bo x k = bo y k := by rw [h]
@[congr] theorem condK_congr {β : Type} {c d : AV} {x y : Option β} (h : c = d) : condK c x y = condK d x y := by rw [h]
@[congr] theorem gdA_congr {β : Type} {g g' : Option AV} {want : Bool} {x : Option (AV × AHeap)} {H : AHeap} {k : AV → AHeap → Option β} (h : g = g') : gdA g want x H k = gdA g' want x H k := by rw [h]
theorem bo_some {α β : Type} {v : α} {k : α → Option β} : bo (some v) k = k v := rfl
theorem condK_true {β : Type} {x y : Option β} : condK (.s (.bool true)) x y = x := rfl
theorem condK_false {β : Type} {x y : Option β} : condK (.s (.bool false)) x y = y := rfl
section
def fl (x : AV) (off : Nat) : Option AV :=
  match x with
  | .agg cells => cells[off]?
  | .s (.agg cs) => (cs.toList.map AV.s)[off]?
  | _ => none
def ixT (x i : AV) : Option AV :=
  match x, i with
  | .s (.string s), .s (.int _ n) => match (if 0 ≤ n then s[n.toNat]? else none) with
    | some b => some (.s (.int .u8 b.toNat))
    | none => none
  | _, _ => none
def slS (m : Nat) (x : AV) (lo hi mx : Option AV) : Option AV :=
  match x with
    | .s (.slice none 0 0) => match boundA lo 0, boundA hi 0, boundA mx 0 with
      | some 0, some 0, some 0 => if hi = none → mx = none then some (.s (.slice none 0 0)) else none
      | _, _, _ => none
    | .sl r g off esz len cap ex => match boundA lo 0, boundA hi len, boundA mx cap with
      | some l, some h, some k =>
        if esz = m ∧ l ≤ h ∧ h ≤ k ∧ k ≤ cap ∧ (hi = none → mx = none) then some (.sl r g (off + l * esz) esz (h - l) (k - l) (ex || !isNone mx)) else none
      | _, _, _ => none
    | .vs n esz cells => match boundA lo 0, boundA hi n, mx with
      | some l, some h, none => if esz = m ∧ l ≤ h ∧ h ≤ n then some (.vs (h - l) esz ((cells.drop (l * esz)).take ((h - l) * esz))) else none
      | _, _, _ => none
    | _ => none
def slT (x : AV) (lo hi : Option AV) : Option AV :=
  match x, boundA lo 0 with
    | .s (.string s), some l => match boundA hi s.size with
      | some h => if l ≤ h ∧ h ≤ s.size then some (.s (.string (s.extract l h))) else none
      | none => none
    | _, _ => none
def bldA (pl : Nat → Option (Nat × Nat)) (z : List AV) (parts : List (Nat × AV)) : Option AV := (fillA pl z parts).map .agg
def ldO (x : AV) (ob : Option AObj) : Option AV :=
  match x with
  | .ref _ g off => match ob with
    | some (.blk g' _ cells) => if g' = g then cells[off]? else none
    | _ => none
  | .ip cells => cells[0]?
  | _ => none
def ld (x : AV) : AM AV := lookB (ldO x) x
def ldaO (n : Nat) (x : AV) (ob : Option AObj) : Option AV :=
  match x with
  | .ref _ g off => match ob with
    | some (.blk g' _ cells) => if g' = g then (if off + n ≤ cells.length then some (.agg ((cells.drop off).take n)) else none) else none
    | _ => none
  | .ip cells => if 0 + n ≤ cells.length then some (.agg ((cells.drop 0).take n)) else none
  | _ => none
def lda (n : Nat) (x : AV) : AM AV := lookB (ldaO n x) x
def st (n : Nat) (x v : AV) : AM AV := fun H =>
  match x with
  | .ref r g off => match H.get r with
    | .blk g' ty cells =>
      if g' = g ∧ H.base ≤ r ∧ some n = some v.cells.length ∧ v.cells.all AV.isCell = true ∧ off + v.cells.length ≤ cells.length then
        some (undefA, H.put r (.blk g ty (setAt cells off v.cells)))
      else none
    | .map .. => none
  | _ => none
def alc (t : TypeId) (z : List AV) : AM AV := fun H => some (.ref H.next 0 0, H.new (.blk 0 t z))
def bsl (e : TypeId) (m : Nat) (z : List AV) (len : Nat) (parts : List (Nat × AV)) : AM AV := fun H =>
  match fillA (fun i => some (i * m, m)) (zerosL z len) parts with
  | some cells => if cells.all AV.isCell = true then some (.sl H.next 0 0 m len len true, H.new (.blk 0 e cells)) else none
  | none => none
def mkm (k : IntKind) : AM AV := fun H => some (.mp H.next, H.new (.map k []))
def lkO (k : IntKind) (z : Value) (x i : AV) (ok : Bool) (ob : Option AObj) : Option AV :=
  match x with
      | .mp _ => match i with
        | .s (.int k' n) => match ob with
          | some (.map k'' es) =>
            if k' = k ∧ k'' = k then
              match findE es n with
              | some v => some (if ok then .tup [v, .s (.bool true)] else v)
              | none => some (if ok then .tup [.s z, .s (.bool false)] else .s z)
            else none
          | _ => none
        | _ => none
      | _ => none
def lk (k : IntKind) (z : Value) (x i : AV) (ok : Bool) : AM AV := lookB (lkO k z x i ok) x
def mup (k : IntKind) (x i v : AV) : AM AV := fun H =>
  match x, i with
  | .mp r, .s (.int k' n) => match H.get r with
    | .map k'' es => if k' = k ∧ k'' = k ∧ H.base ≤ r then some (undefA, H.put r (.map k (putE es n v))) else none
    | _ => none
  | _, _ => none
def del (k : IntKind) (x i : AV) : AM AV := fun H =>
  match x, i with
  | .mp r, .s (.int k' n) => match H.get r with
    | .map k'' es => if k' = k ∧ k'' = k ∧ H.base ≤ r then some (.tup [], H.put r (.map k (dropE es n))) else none
    | _ => none
  | _, _ => none
def ixO (m : Nat) (x i : AV) (ob : Option AObj) : Option AV :=
  match x with
    | .sl r g off esz len _ _ => match i with
      | .s (.int _ n) => if some m = some esz ∧ genO ob = g ∧ 0 ≤ n ∧ n < len then some (.ref r g (off + n.toNat * esz)) else none
      | _ => none
    | .vs len esz cells => match i with
      | .s (.int _ n) => if some m = some esz ∧ 0 ≤ n ∧ n < len then some (.ip (cells.drop (n.toNat * esz))) else none
      | _ => none
    | _ => none
def ix (m : Nat) (x i : AV) : AM AV := lookB (ixO m x i) x
def lnSO (x : AV) : Option AV :=
  match x with
    | .sl _ _ _ _ len _ _ => some (.s (.int .i64 len))
    | .vs n _ _ => some (.s (.int .i64 n))
    | .s (.slice _ n _) => some (.s (.int .i64 n))
    | _ => none
def lnS (x : AV) : AM AV := lookB (fun _ => lnSO x) x
def lnTO (x : AV) : Option AV :=
  match x with
    | .s (.string s) => some (.s (.int .i64 s.size))
    | _ => none
def lnT (x : AV) : AM AV := lookB (fun _ => lnTO x) x
def lnMO (x : AV) (ob : Option AObj) : Option AV :=
  match x with
    | .mp _ => match ob with
      | some (.map _ es) => some (.s (.int .i64 es.length))
      | _ => none
    | .s (.map none) => some (.s (.int .i64 0))
    | _ => none
def lnM (x : AV) : AM AV := lookB (lnMO x) x
def app (e : TypeId) (m by_ : Nat) (x y : AV) : AM AV := fun H =>
  match sliceLen y, sliceCells H y with
  | some n, some new => appendCells e m by_ x n new H
  | _, _ => none
def clr (m : Nat) (z : List AV) (x : AV) : AM AV := fun H =>
  match x with
    | .sl r g off esz len _ _ =>
      if len = 0 then some (.tup [], H) else
      match H.get r with
      | .blk g' ty cells =>
        if esz = m ∧ g' = g ∧ H.base ≤ r ∧ z.length = m ∧ z.all AV.isCell = true ∧ off + len * m ≤ cells.length then
          some (.tup [], H.put r (.blk g ty (setAt cells off (zerosL z len))))
        else none
      | .map .. => none
    | .s (.slice none _ _) => some (.tup [], H)
    | _ => none
end
theorem bsl_of {P : Program} {t e : TypeId} {m n : Nat} {z : List AV} {ps : List (Nat × AV)} {H : AHeap} (he : elemT P t = some e) (hm : szT P e = some m) (hz : zeroL P e = some z) (hl : z.length = m) (h : n * m ≤ 16777216) : buildSliceA P t n ps H = bsl e m z n ps H := by
  simp only [buildSliceA, he, hm, hz]
  rw [if_pos ⟨hl, h⟩]; rfl
theorem bld_of {P : Program} {t : TypeId} {fs : Array Field} {pl : Nat → Option (Nat × Nat)} {z : List AV} {ps : List (Nat × AV)} (hz : zeroL P t = some z) (hu : P.underlying t = some (.struct fs)) (ha : fs.all (fun f => (szT P f.type).isSome) = true) (hp : placeT P fs = pl) : buildA P t ps = bldA pl z ps := by
  simp only [buildA, hz, hu, ha, if_true, hp]; rfl
theorem cv_int {P : Program} {s d : TypeId} {k1 k2 k : IntKind} {n : Int} {H : AHeap} (hb : bytesT? P s d = false) (hs : P.underlying s = some (.int k1)) (hd : P.underlying d = some (.int k2)) : convertA P s d (.s (.int k n)) H = some (.s (.int k2 (IntKind.wrap k2 n)), H) := by
  have h : pureRun P (convert s d (.int k n)) = some (.int k2 (IntKind.wrap k2 n)) := by
    have e1 : ∀ {α : Type} (t : TypeId) (d : TypeDesc) (f : TypeDesc → Sem α), P.underlying t = some d → pureRun P (underlying t >>= f) = pureRun P (f d) := by
      intro α t d f h
      show pureRun P ((match P.underlying t with
        | some d => pure d
        | none => stuck "no such type") >>= f) = _
      rw [h]; rfl
    unfold convert
    rw [e1 s _ _ hs, e1 d _ _ hd]
    rfl
  simp only [convertA, lookB, watchV, Option.map_none, convertO, hb, Bool.false_eq_true, if_false, AV.val?, h, Option.map_some]
abbrev zI : AV := .s (.int .i64 0)
abbrev zB : AV := .s (.bool false)
abbrev zN : AV := .s (.slice none 0 0)
abbrev zP : AV := .s (.pointer none)
abbrev zS : AV := .s (.string ByteArray.empty)
abbrev I (n : Int) : AV := .s (.int .i64 n)
abbrev B (b : Bool) : AV := .s (.bool b)

end Go.Proofs.YtjmldnpdfnklcaaDoor

