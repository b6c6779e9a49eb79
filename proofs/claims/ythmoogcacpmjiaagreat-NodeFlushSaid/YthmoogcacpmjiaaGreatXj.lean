/-
  Own work: an interpreter over named blocks, its soundness, and what the functions of this seat compute (part 10 of 10).
  Conditions: those of the statement alone.
-/
import Derived.Test.YthmoogcacpmjiaaGreatRows
import Derived.Test.YthmoogcacpmjiaaGreatXi
set_option linter.all false
set_option linter.unusedSectionVars false
set_option linter.unusedVariables false
set_option linter.unusedSimpArgs false
namespace Go.Proofs.YthmoogcacpmjiaaGreat
noncomputable section
open Go.ChangeShapes Go.WideShapes Go.ChangeAt Go.RowKit
set_option maxRecDepth 100000 in
theorem Q5(H:Type)(enc:TypeId × Value->H)(W:World)(base:Nat)(args:Array Value)(ds gs:List (DataW H))(before:List MemPlace)
  (hval:∀(j:Nat) t v,Tryz.f7.params[j]?=some t->args[j]?=some v->Value.okWide Tryz.prog W .any base t v)
  (hW:DataW.Whole enc Tryz.prog Tryz.f7.params.toList Rows.nodeFlushSpec.vars false W args.toList ds gs before):
  Calls Tryz.prog 7 args W λe W'=>∃v,e=.returned v/\Rows.nodeFlushSpec.post enc Tryz.prog Tryz.f7 false true false false W args v W':=by
 have hW':=hW;obtain⟨p,q,hA0,hV,rfl,hfz,hnd⟩:=hW;have hA:DataW.TrodAll enc Tryz.prog W 0 (λ_=> true) true Tryz.f7.params.toList args.toList ds p:=hA0;rw [Tryz.params7] at hA hval;obtain⟨v0,vs0,d0,ds0,p0,q0,hargs0,rfl,rfl,h0,r0⟩:=trodAll_cons hA;obtain⟨v1,vs1,d1,ds1,p1,q1,rfl,rfl,rfl,h1,r1⟩:=trodAll_cons r0;obtain⟨rfl,rfl,rfl⟩:=trodAll_nil r1;obtain rfl:args=#[v0,v1]:=by cases args;simp_all
 obtain⟨n0,rfl,rfl,rfl,w0⟩:=open_int Tryz.underlying3 (hval 0 3 v0 rfl rfl) h0;obtain⟨b1,rfl,rfl,rfl⟩:=Go.RowKit.open_bool Tryz.underlying4 (hval 1 4 v1 rfl rfl) h1;obtain⟨H',hr⟩:=GV n0 (akK w0) b1;refine(Tv aj7 acQ hr ali (aex aew (aex abP akJ))).mono λe W' ⟨he,hB⟩=> ?_;subst he;exact⟨_,rfl,Tz ahL (by kernel_rfl) rfl Tryz.underlying4 hW' rfl rfl rfl rfl hB⟩
set_option maxRecDepth 100000 in
theorem Y5(os:Os)(started:os.Started)(H:Type)(enc:TypeId × Value->H):
  ReturnsInHanded {} Tryz.checked os 7 .any (Rows.nodeFlushSpec.pre6 enc Tryz.prog Tryz.f7 Rows.nodeFlushRow.domain false) (Rows.nodeFlushSpec.post enc Tryz.prog Tryz.f7 false true false false):=by
 refine returnsInHanded_of_change (C:=Tryz.checked) aj8 started (by kernel_rfl) Tryz.func7
  (ChangeSpec.witness6 (enc:=enc) (C:=Tryz.checked) false ⟨#[],#[.int .i64 0,.bool false],[]⟩ 8 (by kernel_rfl) (by kernel_rfl) (by kernel_rfl) (by kernel_rfl)) ?_
 intro W base args ds gs before hval hW hcnd _;exact Q5 H enc W base args ds gs before hval hW
theorem nodeFlush_holds:Rows.NodeFlushSaid:=
 OpenClaim.holds_of_wide 7 Tryz.f7 rfl rfl rfl rfl rfl rfl rfl ⟨rfl,rfl,rfl,rfl,rfl⟩ rfl rfl rfl rfl rfl (by kernel_rfl) Tryz.func7 (by kernel_rfl)
  (of_decide_eq_true (by kernel_rfl)) (by unfold Func.isWrapper;first | (rw [if_pos (by decide+kernel)];kernel_rfl) | (rw [if_neg (by decide+kernel)];exact⟨rfl,rfl⟩))
  (λos started H enc _=> Y5 os started H enc)
end
end Go.Proofs.YthmoogcacpmjiaaGreat
