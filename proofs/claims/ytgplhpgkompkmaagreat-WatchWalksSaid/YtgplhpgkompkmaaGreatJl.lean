/-
  Own work: an interpreter over named blocks, its soundness, and what the functions of this seat compute (part 12 of 12).
  Conditions: those of the statement alone.
-/
import Derived.Test.YtgplhpgkompkmaaGreatRows
import Derived.Test.YtgplhpgkompkmaaGreatJk
set_option linter.all false
set_option linter.unusedSectionVars false
set_option linter.unusedVariables false
set_option linter.unusedSimpArgs false
namespace Go.Proofs.YtgplhpgkompkmaaGreat
noncomputable section
open Go.ChangeShapes Go.WideShapes Go.ChangeAt Go.RowKit
set_option maxRecDepth 100000 in
theorem ZA(H:Type)(enc:TypeId × Value->H)(W:World)(base:Nat)(args:Array Value)(m A:List (DataW H))(g:List MemPlace)
  (b:∀(j:Nat) t v,Tryz.f4.params[j]?=some t->args[j]?=some v->Value.okWide Tryz.prog W .any base t v)
  (n:DataW.Whole enc Tryz.prog Tryz.f4.params.toList Rows.watchWalksSpec.vars false W args.toList m A g):
  Calls Tryz.prog 4 args W λe o=>∃v,e=.returned v/\Rows.watchWalksSpec.post enc Tryz.prog Tryz.f4 false true false false W args v o:=by
 have i:=n;obtain⟨p,q,k,hV,rfl,C,D⟩:=n;have u:DataW.TrodAll enc Tryz.prog W 0 (λ_=>true) true Tryz.f4.params.toList args.toList m p:=k;rw[Tryz.params4]at u b;obtain⟨w,E,d0,F,p0,q0,h,rfl,rfl,G,K⟩:=trodAll_cons u;obtain⟨y,L,d1,M,p1,q1,rfl,rfl,rfl,Q,R⟩:=trodAll_cons K;obtain⟨rfl,rfl,rfl⟩:=trodAll_nil R;obtain rfl:args=#[w,y]:=by cases args;simp_all
 obtain⟨s,zi,zw,zk,za,zv,T,d⟩:=aq5 (b 0 24 w rfl rfl) G;obtain⟨x1,z1,X,z⟩:=acR (b 1 40 y rfl rfl) Q;obtain⟨H',hr⟩:=JV d d.init.is d.who.is d.kinds.is d.iC.is d.bT.is ⟨d.init.cell,d.who.cell,d.kinds.cell,d.iC.cell,d.bT.cell⟩ z.is z.wf;refine(aaN auv alp hr av3 (Ap T (Ap X au2))).mono λe o ⟨he,hB⟩=>?_;subst he;exact⟨_,rfl,aaO aq4 Z rfl Tryz.underlying4 i rfl rfl rfl rfl hB⟩
set_option maxRecDepth 100000 in
theorem agE(os:Os)(b:os.Started)(H:Type)(enc:TypeId × Value->H):
  ReturnsInHanded {} Tryz.checked os 4 .any (Rows.watchWalksSpec.pre6 enc Tryz.prog Tryz.f4 Rows.watchWalksRow.domain false) (Rows.watchWalksSpec.post enc Tryz.prog Tryz.f4 false true false false):=by
 refine returnsInHanded_of_change (C:=Tryz.checked) auw b Z Tryz.func4
  (ChangeSpec.witness6 (enc:=enc) (C:=Tryz.checked) false ⟨#[],#[.agg #[.int .i64 0,.int .i64 0,.int .i64 0,.int .i64 0,.int .i64 0,.int .i64 0,.int .i64 0,.slice none 0 0,.slice none 0 0,.slice none 0 0,.slice none 0 0,.slice none 0 0],.slice none 0 0],[]⟩ 8 Z Z Z Z) ?_
 intro W base e i j d g k h _;exact ZA H enc W base e i j d g k
theorem watchWalks_holds:Rows.WatchWalksSaid:=
 OpenClaim.holds_of_wide 4 Tryz.f4 rfl rfl rfl rfl rfl rfl rfl ⟨rfl,rfl,rfl,rfl,rfl⟩ rfl rfl rfl rfl rfl Z Tryz.func4 Z
  (of_decide_eq_true Z) (by unfold Func.isWrapper;first|(rw[if_pos (by decide+kernel)];kernel_rfl)|(rw[if_neg (by decide+kernel)];exact⟨rfl,rfl⟩))
  (λos b H enc _=>agE os b H enc)
end
end Go.Proofs.YtgplhpgkompkmaaGreat
