/-
  Own work: an interpreter over named blocks, its soundness, and what the functions of this seat compute (part 10 of 10).
  Conditions: those of the statement alone.
-/
import Derived.Test.YthmoogcacpmjiaaGreatRows
import Derived.Test.YthmoogcacpmjiaaGreatXi
set_option linter.all false
set_option linter.unusedSectionVars false
set_option linter.unusedVariables false
set_option linter.unusedSimpArgs false
namespace Go.Proofs.YthmoogcacpmjiaaGreat
noncomputable section
open Go.ChangeShapes Go.WideShapes Go.ChangeAt Go.RowKit
set_option maxRecDepth 100000 in
theorem Q9(H:Type)(enc:TypeId × Value->H)(W:World)(base:Nat)(args:Array Value)(ds gs:List (DataW H))(before:List MemPlace)
  (hval:∀(j:Nat) t v,Tryz.f8.params[j]?=some t->args[j]?=some v->Value.okWide Tryz.prog W .any base t v)
  (hW:DataW.Whole enc Tryz.prog Tryz.f8.params.toList Rows.nodeVictimsSpec.vars false W args.toList ds gs before):
  Calls Tryz.prog 8 args W λe W'=>∃v,e=.returned v/\Rows.nodeVictimsSpec.post enc Tryz.prog Tryz.f8 false true false false W args v W':=by
 have hW':=hW;obtain⟨p,q,hA0,hV,rfl,hfz,hnd⟩:=hW;have hA:DataW.TrodAll enc Tryz.prog W 0 (λ_=> true) true Tryz.f8.params.toList args.toList ds p:=hA0;rw [Tryz.params8] at hA hval;obtain⟨v0,vs0,d0,ds0,p0,q0,hargs0,rfl,rfl,h0,r0⟩:=trodAll_cons hA;obtain⟨v1,vs1,d1,ds1,p1,q1,rfl,rfl,rfl,h1,r1⟩:=trodAll_cons r0;obtain⟨v2,vs2,d2,ds2,p2,q2,rfl,rfl,rfl,h2,r2⟩:=trodAll_cons r1;obtain⟨rfl,rfl,rfl⟩:=trodAll_nil r2;obtain rfl:args=#[v0,v1,v2]:=by cases args;simp_all
 obtain⟨n0,rfl,rfl,rfl,w0⟩:=open_int Tryz.underlying3 (hval 0 3 v0 rfl rfl) h0;obtain⟨n1,rfl,rfl,rfl,w1⟩:=open_int Tryz.underlying3 (hval 1 3 v1 rfl rfl) h1;obtain⟨b2,rfl,rfl,rfl⟩:=Go.RowKit.open_bool Tryz.underlying4 (hval 2 4 v2 rfl rfl) h2;obtain⟨H',hr⟩:=CS n0 (akb w0) n1 (akb w1) b2;refine(TB ajQ acS hr ak1 (abQ ZQ (abQ ZQ (abQ abP aku)))).mono λe W' ⟨he,hB⟩=> ?_;subst he;exact⟨_,rfl,TD ahH (by kernel_rfl) rfl Tryz.underlying4 hW' rfl rfl rfl rfl hB⟩
set_option maxRecDepth 100000 in
theorem Y3(os:Os)(started:os.Started)(H:Type)(enc:TypeId × Value->H):
  ReturnsInHanded {} Tryz.checked os 8 .any (Rows.nodeVictimsSpec.pre6 enc Tryz.prog Tryz.f8 Rows.nodeVictimsRow.domain false) (Rows.nodeVictimsSpec.post enc Tryz.prog Tryz.f8 false true false false):=by
 refine returnsInHanded_of_change (C:=Tryz.checked) ajR started (by kernel_rfl) Tryz.func8
  (ChangeSpec.witness6 (enc:=enc) (C:=Tryz.checked) false ⟨#[],#[.int .i64 0,.int .i64 0,.bool false],[]⟩ 8 (by kernel_rfl) (by kernel_rfl) (by kernel_rfl) (by kernel_rfl)) ?_
 intro W base args ds gs before hval hW hcnd _;exact Q9 H enc W base args ds gs before hval hW
theorem nodeVictims_holds:Rows.NodeVictimsSaid:=
 OpenClaim.holds_of_wide 8 Tryz.f8 rfl rfl rfl rfl rfl rfl rfl ⟨rfl,rfl,rfl,rfl,rfl⟩ rfl rfl rfl rfl rfl (by kernel_rfl) Tryz.func8 (by kernel_rfl)
  (of_decide_eq_true (by kernel_rfl)) (by unfold Func.isWrapper;first | (rw [if_pos (by decide+kernel)];kernel_rfl) | (rw [if_neg (by decide+kernel)];exact⟨rfl,rfl⟩))
  (λos started H enc _=> Y3 os started H enc)
end
end Go.Proofs.YthmoogcacpmjiaaGreat
