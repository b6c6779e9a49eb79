/-
  Own work: an interpreter over named blocks, its soundness, and what the functions of this seat compute (part 12 of 12).
  Conditions: those of the statement alone.
-/
import Derived.Test.YtljogojaihgdlaaGreatRows
import Derived.Test.YtljogojaihgdlaaGreatHk
set_option linter.all false
set_option linter.unusedSectionVars false
set_option linter.unusedVariables false
set_option linter.unusedSimpArgs false
namespace Go.Proofs.YtljogojaihgdlaaGreat
noncomputable section
open Go.ChangeShapes Go.WideShapes Go.ChangeAt Go.RowKit
set_option maxRecDepth 100000 in
theorem Y1(H:Type)(enc:TypeId × Value->H)(W:World)(base:Nat)(args:Array Value)(m F:List (DataW H))(g:List MemPlace)
  (b:∀(j:Nat) t v,Tryz.f5.params[j]?=some t->args[j]?=some v->Value.okWide Tryz.prog W .any base t v)
  (o:DataW.Whole enc Tryz.prog Tryz.f5.params.toList Rows.roundsEndSpec.vars false W args.toList m F g):
  Calls Tryz.prog 5 args W λe u=>∃v,e=.returned v/\Rows.roundsEndSpec.post enc Tryz.prog Tryz.f5 false true false false W args v u:=by
 have i:=o;obtain⟨p,q,k,hV,rfl,G,K⟩:=o;have w:DataW.TrodAll enc Tryz.prog W 0 (λ_=>true) true Tryz.f5.params.toList args.toList m p:=k;rw [Tryz.params5] at w b;obtain⟨y,L,d0,M,p0,q0,h,rfl,rfl,Q,R⟩:=trodAll_cons w;obtain⟨A,T,d1,X,p1,q1,rfl,rfl,rfl,h1,r1⟩:=trodAll_cons R;obtain⟨C,aa,d2,ab,p2,q2,rfl,rfl,rfl,h2,r2⟩:=trodAll_cons r1;obtain⟨rfl,rfl,rfl⟩:=trodAll_nil r2;obtain rfl:args=#[y,A,C]:=by cases args;simp_all
 obtain⟨s,zi,zw,zk,za,zv,s1,d⟩:=apj (b 0 24 y rfl rfl) Q;obtain⟨x1,z1,t1,D⟩:=ab7 (b 1 61 A rfl rfl) h1;obtain⟨x2,z2,t2,E⟩:=apk (b 2 22 C rfl rfl) h2;obtain⟨H',hr⟩:=PI d d.init.is d.who.is d.kinds.is d.kU.is d.bH.is ⟨d.init.cell,d.who.cell,d.kinds.cell,d.kU.cell,d.bH.cell⟩ D.is D.wf E.is (λz hz=>aiF (E.wf z hz));refine(aac asL ajU hr auy (zS s1 (zS t1 (zS t2 ati)))).mono λe u ⟨he,hB⟩=>?_;subst he;exact⟨_,rfl,aad aph J rfl Tryz.underlying4 i rfl rfl rfl rfl hB⟩
set_option maxRecDepth 100000 in
theorem afI(os:Os)(b:os.Started)(H:Type)(enc:TypeId × Value->H):
  ReturnsInHanded {} Tryz.checked os 5 .any (Rows.roundsEndSpec.pre6 enc Tryz.prog Tryz.f5 Rows.roundsEndRow.domain false) (Rows.roundsEndSpec.post enc Tryz.prog Tryz.f5 false true false false):=by
 refine returnsInHanded_of_change (C:=Tryz.checked) asM b J Tryz.func5
  (ChangeSpec.witness6 (enc:=enc) (C:=Tryz.checked) false ⟨#[],#[.agg #[.int .i64 0,.int .i64 0,.int .i64 0,.int .i64 0,.int .i64 0,.int .i64 0,.int .i64 0,.slice none 0 0,.slice none 0 0,.slice none 0 0,.slice none 0 0,.slice none 0 0],.slice none 0 0,.slice none 0 0],[]⟩ 8 J J J J) ?_
 intro W base e i j d g k h _;exact Y1 H enc W base e i j d g k
theorem roundsEnd_holds:Rows.RoundsEndSaid:=
 OpenClaim.holds_of_wide 5 Tryz.f5 rfl rfl rfl rfl rfl rfl rfl ⟨rfl,rfl,rfl,rfl,rfl⟩ rfl rfl rfl rfl rfl J Tryz.func5 J
  (of_decide_eq_true J) (by unfold Func.isWrapper;first|(rw [if_pos (by decide+kernel)];kernel_rfl)|(rw [if_neg (by decide+kernel)];exact⟨rfl,rfl⟩))
  (λos b H enc _=>afI os b H enc)
end
end Go.Proofs.YtljogojaihgdlaaGreat
