/-
  Own work: an interpreter over named blocks, its soundness, and what the functions of this seat compute (part 12 of 12).
  Conditions: those of the statement alone.
-/
import Derived.Test.YtljogojaihgdlaaGreatRows
import Derived.Test.YtljogojaihgdlaaGreatXk
set_option linter.all false
set_option linter.unusedSectionVars false
set_option linter.unusedVariables false
set_option linter.unusedSimpArgs false
namespace Go.Proofs.YtljogojaihgdlaaGreat
noncomputable section
open Go.ChangeShapes Go.WideShapes Go.ChangeAt Go.RowKit
set_option maxRecDepth 100000 in
theorem YZ(H:Type)(enc:TypeId × Value->H)(W:World)(base:Nat)(args:Array Value)(m D:List (DataW H))(g:List MemPlace)
  (b:∀(j:Nat) t v,Tryz.f6.params[j]?=some t->args[j]?=some v->Value.okWide Tryz.prog W .any base t v)
  (o:DataW.Whole enc Tryz.prog Tryz.f6.params.toList Rows.roundsGoSpec.vars false W args.toList m D g):
  Calls Tryz.prog 6 args W λe u=>∃v,e=.returned v/\Rows.roundsGoSpec.post enc Tryz.prog Tryz.f6 false true false false W args v u:=by
 have i:=o;obtain⟨p,q,k,hV,rfl,E,F⟩:=o;have w:DataW.TrodAll enc Tryz.prog W 0 (λ_=>true) true Tryz.f6.params.toList args.toList m p:=k;rw [Tryz.params6] at w b;obtain⟨y,G,d0,K,p0,q0,h,rfl,rfl,L,M⟩:=trodAll_cons w;obtain⟨A,Q,d1,R,p1,q1,rfl,rfl,rfl,T,X⟩:=trodAll_cons M;obtain⟨rfl,rfl,rfl⟩:=trodAll_nil X;obtain rfl:args=#[y,A]:=by cases args;simp_all
 obtain⟨s,zi,zw,zk,za,zv,s1,d⟩:=apf (b 0 24 y rfl rfl) L;obtain⟨x1,z1,t1,C⟩:=apg (b 1 22 A rfl rfl) T;obtain⟨H',hr⟩:=SS d d.init.is d.who.is d.kinds.is d.kV.is d.bH.is ⟨d.init.cell,d.who.cell,d.kinds.cell,d.kV.cell,d.bH.cell⟩ C.is (λz hz=>ap1 (C.wf z hz));refine(Z8 asI ajS hr aur (AQ s1 (AQ t1 ate))).mono λe u ⟨he,hB⟩=>?_;subst he;exact⟨_,rfl,Z9 ape J rfl Tryz.underlying4 i rfl rfl rfl rfl hB⟩
set_option maxRecDepth 100000 in
theorem afE(os:Os)(b:os.Started)(H:Type)(enc:TypeId × Value->H):
  ReturnsInHanded {} Tryz.checked os 6 .any (Rows.roundsGoSpec.pre6 enc Tryz.prog Tryz.f6 Rows.roundsGoRow.domain false) (Rows.roundsGoSpec.post enc Tryz.prog Tryz.f6 false true false false):=by
 refine returnsInHanded_of_change (C:=Tryz.checked) asJ b J Tryz.func6
  (ChangeSpec.witness6 (enc:=enc) (C:=Tryz.checked) false ⟨#[],#[.agg #[.int .i64 0,.int .i64 0,.int .i64 0,.int .i64 0,.int .i64 0,.int .i64 0,.int .i64 0,.slice none 0 0,.slice none 0 0,.slice none 0 0,.slice none 0 0,.slice none 0 0],.slice none 0 0],[]⟩ 8 J J J J) ?_
 intro W base e i j d g k h _;exact YZ H enc W base e i j d g k
theorem roundsGo_holds:Rows.RoundsGoSaid:=
 OpenClaim.holds_of_wide 6 Tryz.f6 rfl rfl rfl rfl rfl rfl rfl ⟨rfl,rfl,rfl,rfl,rfl⟩ rfl rfl rfl rfl rfl J Tryz.func6 J
  (of_decide_eq_true J) (by unfold Func.isWrapper;first|(rw [if_pos (by decide+kernel)];kernel_rfl)|(rw [if_neg (by decide+kernel)];exact⟨rfl,rfl⟩))
  (λos b H enc _=>afE os b H enc)
end
end Go.Proofs.YtljogojaihgdlaaGreat
