/-
  Own work: an interpreter over named blocks, its soundness, and what the functions of this seat compute (part 12 of 12).
  Conditions: those of the statement alone.
-/
import Derived.Test.YtgplhpgkompkmaaGreatRows
import Derived.Test.YtgplhpgkompkmaaGreatFk
set_option linter.all false
namespace Go.Proofs.YtgplhpgkompkmaaGreat
open Option renaming some->ZC,none->Z1
open Bool renaming true->Z0,false->ZV
open Decidable renaming decide->u,decide->YM
noncomputable section
open Go.ChangeShapes Go.WideShapes Go.ChangeAt Go.RowKit
set_option maxRecDepth 100000 in
theorem ZB(H:Type)(enc:TypeId × Value->H)(W:World)(base:Nat)(args:Array Value)(m A:List (DataW H))(g:List MemPlace)
  (b:∀(j:Nat) t v,Tryz.f5.params[j]?=some t->args[j]?=some v->Value.okWide Tryz.prog W .any base t v)
  (n:DataW.Whole enc Tryz.prog Tryz.f5.params.toList Rows.watchSoundSpec.vars false W args.toList m A g):
  Calls Tryz.prog 5 args W λe o=>∃v,e=.returned v/\Rows.watchSoundSpec.post enc Tryz.prog Tryz.f5 false true false false W args v o:=by
 have i:=n;obtain⟨p,q,k,hV,rfl,C,D⟩:=n;have u:DataW.TrodAll enc Tryz.prog W 0 (λ_=>true) true Tryz.f5.params.toList args.toList m p:=k;rw[Tryz.params5]at u b;obtain⟨w,E,d0,F,p0,q0,h,rfl,rfl,G,K⟩:=trodAll_cons u;obtain⟨y,L,d1,M,p1,q1,rfl,rfl,rfl,Q,R⟩:=trodAll_cons K;obtain⟨rfl,rfl,rfl⟩:=trodAll_nil R;obtain rfl:args=#[w,y]:=by cases args;simp_all
 obtain⟨s,zi,zw,zk,za,zv,T,d⟩:=aq1 (b 0 24 w rfl rfl) G;obtain⟨x1,z1,X,z⟩:=acT (b 1 40 y rfl rfl) Q;obtain⟨H',hr⟩:=JV d d.init.is d.who.is d.kinds.is d.fG.is d.bI.is ⟨d.init.cell,d.who.cell,d.kinds.cell,d.fG.cell,d.bI.cell⟩ z.is z.wf;refine(aaM auk alr hr avP (Az T (Az X auP))).mono λe o ⟨he,hB⟩=>?_;subst he;exact⟨_,rfl,aaN aq0 Z rfl Tryz.underlying4 i rfl rfl rfl rfl hB⟩
set_option maxRecDepth 100000 in
theorem agK(os:Os)(b:os.Started)(H:Type)(enc:TypeId × Value->H):
  ReturnsInHanded {} Tryz.checked os 5 .any (Rows.watchSoundSpec.pre6 enc Tryz.prog Tryz.f5 Rows.watchSoundRow.domain false) (Rows.watchSoundSpec.post enc Tryz.prog Tryz.f5 false true false false):=by
 refine returnsInHanded_of_change (C:=Tryz.checked) aul b Z Tryz.func5
  (ChangeSpec.witness6 (enc:=enc) (C:=Tryz.checked) false ⟨#[],#[.agg #[.int .i64 0,.int .i64 0,.int .i64 0,.int .i64 0,.int .i64 0,.int .i64 0,.int .i64 0,.slice none 0 0,.slice none 0 0,.slice none 0 0,.slice none 0 0,.slice none 0 0],.slice none 0 0],[]⟩ 8 Z Z Z Z) ?_
 intro W base e i j d g k h _;exact ZB H enc W base e i j d g k
theorem watchSound_holds:Rows.WatchSoundSaid:=
 OpenClaim.holds_of_wide 5 Tryz.f5 W W W W W W W ⟨W,W,W,W,W⟩ W W W W W Z Tryz.func5 Z
  (zaB Z) (by unfold Func.isWrapper;first|(rw[y (by decide+kernel)];kernel_rfl)|(rw[F (by decide+kernel)];exact⟨W,W⟩))
  (λos b H enc _=>agK os b H enc)
end
end Go.Proofs.YtgplhpgkompkmaaGreat
