/-
  Own work: an interpreter over named blocks, its soundness, and what the functions of this seat compute (part 5 of 5).
  Conditions: those of the statement alone.
-/
import Derived.Test.YtmhbgbiaajbhnaaGreatRows
import Derived.Test.YtmhbgbiaajbhnaaGreatXd
set_option linter.all false
set_option linter.unusedSectionVars false
set_option linter.unusedVariables false
set_option linter.unusedSimpArgs false
namespace Go.Proofs.YtmhbgbiaajbhnaaGreat

open Go.ChangeShapes Go.WideShapes Go.ChangeAt Go.RowKit
theorem polOk : PolOk Tryz.prog pol := fun f p h => by cases h
theorem rb_own : ownKnob Tryz.prog.godebug = none := by kernel_rfl
theorem rb_laid : laidOutB Tryz.prog = true := by kernel_rfl
theorem rb_mixed : Tryz.prog.follows .mixedOrders = true := by kernel_rfl
theorem rb_setupT : Tryz.prog.cellTypes Tryz.prog.depth 24 = some [3, 3, 3, 3, 3, 3, 3, 22, 22, 22, 22, 22] := by kernel_rfl
set_option maxRecDepth 100000 in
theorem rb_open {H : Type} {enc : TypeId × Value → H} {W : World} {r : Reach} {b0 base : Nat} {sp : Nat → Bool} {held : Bool} {v : Value} {d : DataW H} {ps : List MemPlace} (hval : Value.okWide Tryz.prog W r b0 24 v) (h : DataW.Trod enc Tryz.prog W base sp held 24 v d ps) :
    ∃ (s : SetupA) (zi zw zk za zv : List Int), RV ρ0 G0 W (.agg s.cells) v ∧ s.Ok zi zw zk za zv :=
  open_setup Tryz.underlying24 rb_setupT (by kernel_rfl) (by kernel_rfl) Tryz.underlying3 (by kernel_rfl) Tryz.underlying22 (by kernel_rfl) Tryz.underlying3 (by kernel_rfl) hval h
set_option maxRecDepth 100000 in
theorem rb_contract (H : Type) (enc : TypeId × Value → H) (W : World) (base : Nat) (args : Array Value) (ds gs : List (DataW H)) (before : List MemPlace)
    (hval : ∀ (j : Nat) t v, Tryz.f3.params[j]? = some t → args[j]? = some v → Value.okWide Tryz.prog W .any base t v)
    (hW : DataW.Whole enc Tryz.prog Tryz.f3.params.toList Rows.roundsBoundSpec.vars false W args.toList ds gs before) :
    Calls Tryz.prog 3 args W fun e W' => ∃ v, e = .returned v ∧ Rows.roundsBoundSpec.post enc Tryz.prog Tryz.f3 false true false false W args v W' := by
  have hW' := hW
  obtain ⟨p, q, hA0, hV, rfl, hfz, hnd⟩ := hW
  have hA : DataW.TrodAll enc Tryz.prog W 0 (fun _ => true) true Tryz.f3.params.toList args.toList ds p := hA0
  rw [Tryz.params3] at hA hval
  obtain ⟨v0, vs0, d0, ds0, p0, q0, hargs0, rfl, rfl, h0, r0⟩ := trodAll_cons hA
  obtain ⟨rfl, rfl, rfl⟩ := trodAll_nil r0
  obtain rfl : args = #[v0] := by cases args; simp_all
  obtain ⟨s, zi, zw, zk, za, zv, s1, s2⟩ := rb_open (hval 0 24 v0 rfl rfl) h0
  obtain ⟨H', hr⟩ := law_sp AHeap.empty (Nat.le_refl _) s2 s2.init.is s2.who.is s2.kinds.is s2.addrs.is s2.values.is ⟨s2.init.cell, s2.who.cell, s2.kinds.cell, s2.addrs.cell, s2.values.cell⟩
  refine (law_calls polOk rb_mixed hr (rcons s1 rnil)).mono fun e W' ⟨he, hB⟩ => ?_
  subst he
  exact ⟨_, rfl, post_true rb_laid (by kernel_rfl) rfl Tryz.underlying4 hW' rfl rfl rfl rfl hB⟩
set_option maxRecDepth 100000 in
theorem rb_lifted (os : Os) (started : os.Started) (H : Type) (enc : TypeId × Value → H) :
    ReturnsInHanded {} Tryz.checked os 3 .any (Rows.roundsBoundSpec.pre6 enc Tryz.prog Tryz.f3 Rows.roundsBoundRow.domain false) (Rows.roundsBoundSpec.post enc Tryz.prog Tryz.f3 false true false false) := by
  refine returnsInHanded_of_change (C := Tryz.checked) rb_own started (by kernel_rfl) Tryz.func3
    (ChangeSpec.witness6 (enc := enc) (C := Tryz.checked) false ⟨#[], #[.agg #[.int .i64 0, .int .i64 0, .int .i64 0, .int .i64 0, .int .i64 0, .int .i64 0, .int .i64 0, .slice none 0 0, .slice none 0 0, .slice none 0 0, .slice none 0 0, .slice none 0 0]], []⟩ 8 (by kernel_rfl) (by kernel_rfl) (by kernel_rfl) (by kernel_rfl)) ?_
  intro W base args ds gs before hval hW hcnd _
  exact rb_contract H enc W base args ds gs before hval hW
theorem roundsBound_holds : Rows.RoundsBoundSaid :=
  OpenClaim.holds_of_wide 3 Tryz.f3 rfl rfl rfl rfl rfl rfl rfl ⟨rfl, rfl, rfl, rfl, rfl⟩ rfl rfl rfl rfl rfl (by kernel_rfl) Tryz.func3 (by kernel_rfl)
    (of_decide_eq_true (by kernel_rfl)) (by unfold Func.isWrapper; first | (rw [if_pos (by decide +kernel)]; kernel_rfl) | (rw [if_neg (by decide +kernel)]; exact ⟨rfl, rfl⟩))
    (fun os started H enc _ => rb_lifted os started H enc)

end Go.Proofs.YtmhbgbiaajbhnaaGreat

