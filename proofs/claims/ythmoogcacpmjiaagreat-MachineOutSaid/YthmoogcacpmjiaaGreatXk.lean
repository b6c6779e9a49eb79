/-
  Own work: an interpreter over named blocks, its soundness, and what the functions of this seat compute (part 11 of 11).
  Conditions: those of the statement alone.
-/
import Derived.Test.YthmoogcacpmjiaaGreatRows
import Derived.Test.YthmoogcacpmjiaaGreatXj
set_option linter.all false
set_option linter.unusedSectionVars false
set_option linter.unusedVariables false
set_option linter.unusedSimpArgs false
namespace Go.Proofs.YthmoogcacpmjiaaGreat
noncomputable section
open Go.ChangeShapes Go.WideShapes Go.ChangeAt Go.RowKit
set_option maxRecDepth 100000 in
theorem UL(H:Type)(enc:TypeId × Value->H)(W:World)(base:Nat)(args:Array Value)(ds gs:List (DataW H))(before:List MemPlace)
  (hval:∀(j:Nat) t v,Tryz.f4.params[j]?=some t->args[j]?=some v->Value.okWide Tryz.prog W .any base t v)
  (hW:DataW.Whole enc Tryz.prog Tryz.f4.params.toList Rows.machineOutSpec.vars false W args.toList ds gs before):
  Calls Tryz.prog 4 args W λe W'=>∃v,e=.returned v/\Rows.machineOutSpec.post enc Tryz.prog Tryz.f4 false true false false W args v W':=by
 have hW':=hW;obtain⟨p,q,hA0,hV,rfl,hfz,hnd⟩:=hW;have hA:DataW.TrodAll enc Tryz.prog W 0 (λ_=> true) true Tryz.f4.params.toList args.toList ds p:=hA0;rw [Tryz.params4] at hA hval;obtain⟨v0,vs0,d0,ds0,p0,q0,hargs0,rfl,rfl,h0,r0⟩:=trodAll_cons hA;obtain⟨v1,vs1,d1,ds1,p1,q1,rfl,rfl,rfl,h1,r1⟩:=trodAll_cons r0;obtain⟨v2,vs2,d2,ds2,p2,q2,rfl,rfl,rfl,h2,r2⟩:=trodAll_cons r1;obtain⟨v3,vs3,d3,ds3,p3,q3,rfl,rfl,rfl,h3,r3⟩:=trodAll_cons r2;obtain⟨v4,vs4,d4,ds4,p4,q4,rfl,rfl,rfl,h4,r4⟩:=trodAll_cons r3;obtain⟨rfl,rfl,rfl⟩:=trodAll_nil r4;obtain rfl:args=#[v0,v1,v2,v3,v4]:=by cases args;simp_all
 obtain⟨s,zi,zw,zk,za,zv,s1,s2⟩:=alj (hval 0 24 v0 rfl rfl) h0;obtain⟨x1,z1,t1,y1⟩:=Yu (hval 1 25 v1 rfl rfl) h1;obtain⟨n2,rfl,rfl,rfl,w2⟩:=open_int Tryz.underlying3 (hval 2 3 v2 rfl rfl) h2;obtain⟨n3,rfl,rfl,rfl,w3⟩:=open_int Tryz.underlying3 (hval 3 3 v3 rfl rfl) h3;obtain⟨n4,rfl,rfl,rfl,w4⟩:=open_int Tryz.underlying33 (hval 4 33 v4 rfl rfl) h4;obtain⟨H',hr⟩:=ES s2 s2.init.is s2.who.is s2.kinds.is s2.jq.is s2.values.is ⟨s2.init.cell,s2.who.cell,s2.kinds.cell,s2.jq.cell,s2.values.cell⟩ y1.is y1.wf n2 (acO w2) n3 (acO w3) n4 (acU w4);refine(VX aoc af4 hr apC (tq s1 (tq t1 (tq sZ (tq sZ (tq sZ aox)))))).mono λe W' ⟨he,hB⟩=> ?_;subst he;exact⟨_,rfl,VY ali (by kernel_rfl) rfl Tryz.underlying4 hW' rfl rfl rfl rfl hB⟩
set_option maxRecDepth 100000 in
theorem abO(os:Os)(started:os.Started)(H:Type)(enc:TypeId × Value->H):
  ReturnsInHanded {} Tryz.checked os 4 .any (Rows.machineOutSpec.pre6 enc Tryz.prog Tryz.f4 Rows.machineOutRow.domain false) (Rows.machineOutSpec.post enc Tryz.prog Tryz.f4 false true false false):=by
 refine returnsInHanded_of_change (C:=Tryz.checked) aod started (by kernel_rfl) Tryz.func4
  (ChangeSpec.witness6 (enc:=enc) (C:=Tryz.checked) false ⟨#[],#[.agg #[.int .i64 0,.int .i64 0,.int .i64 0,.int .i64 0,.int .i64 0,.int .i64 0,.int .i64 0,.slice none 0 0,.slice none 0 0,.slice none 0 0,.slice none 0 0,.slice none 0 0],.slice none 0 0,.int .i64 0,.int .i64 0,.int .u16 0],[]⟩ 8 (by kernel_rfl) (by kernel_rfl) (by kernel_rfl) (by kernel_rfl)) ?_
 intro W base args ds gs before hval hW hcnd _;exact UL H enc W base args ds gs before hval hW
theorem machineOut_holds:Rows.MachineOutSaid:=
 OpenClaim.holds_of_wide 4 Tryz.f4 rfl rfl rfl rfl rfl rfl rfl ⟨rfl,rfl,rfl,rfl,rfl⟩ rfl rfl rfl rfl rfl (by kernel_rfl) Tryz.func4 (by kernel_rfl)
  (of_decide_eq_true (by kernel_rfl)) (by unfold Func.isWrapper;first | (rw [if_pos (by decide+kernel)];kernel_rfl) | (rw [if_neg (by decide+kernel)];exact⟨rfl,rfl⟩))
  (λos started H enc _=> abO os started H enc)
end
end Go.Proofs.YthmoogcacpmjiaaGreat
