/-
  Own work, a part.
-/
import Derived.Test.YtgplhpgkompkmaaGreatProg
import Derived.KernelRfl
import Derived.Shelf.Abstract
import Derived.WalkKit
import Derived.OwnWalkIn
import Derived.TacticsInMore
import Derived.LoopNIn
import Derived.LoopIn
import Derived.RegionIn
import Derived.Shelf.RegionOpen
import Derived.Test.YtgplhpgkompkmaaGreatFf
set_option linter.all false
namespace Go.Proofs.YtgplhpgkompkmaaGreat
open Option renaming some->ZC,none->Z1
open Bool renaming true->Z0,false->ZV
open Decidable renaming decide->u,decide->YM
noncomputable section
open Go.RowKit
attribute [local go_sem] Oper.semAt_some
def alj(d e b off N:Nat)(W:Xs):Prop:=
 (∃o c:Nat,(0<N->o=off)/\8*N<=c/\W.cell? ⟨d,0,Z1⟩=ZC (.slice (ZC ⟨b,o,Z1⟩) (8*N) c))/\W.cell? ⟨e,0,Z1⟩=ZC (.int .i64 8)
set_option maxRecDepth 100000 in
set_option maxHeartbeats 2000000 in
theorem acQ(n:Nat)(hn:1<=n)(l Bs Bn b off N:Nat)(hN:N<=1000)(J Jx:List (Fin N)->World->Prop)(W:World)(hJ:AbidesFrom W.heap.size J)
  (hY:∀pre x W1,J pre W1->pre.length<N->YieldAt Fence.wide (n-1) Tryz.prog l #[.slice (some ⟨b,off+8*x.val,none⟩) 8 8] W1 λe W'=>
   (e=.returned (.bool true)/\J (pre++[x]) W'/\KpC (alj Bs Bn b off N) W1 W')∨(e=.returned (.bool false)/\Jx (pre++[x]) W'))
  (hB:alj Bs Bn b off N W) (h0:J [] W):
  CallsIn Fence.wide n Tryz.prog 214 #[.func (.yield l) #[] #[],.pointer (some ⟨Bs,0,none⟩),.pointer (some ⟨Bn,0,none⟩)] W λe W'=>(∃v,e=.returned v)/\
   ((∃ys:List (Fin N),ys.map (λx=>x.val)=List.range N/\J ys W')∨(∃pre:List (Fin N),True/\Jx pre W')):=by
 refine callsIn_of_wp Tryz.func214 rfl trivial ?_ rfl;simp only[Tryz.ntmps214,List.size_toArray,List.length_cons,List.length_nil,Nat.reduceAdd,Nat.reduceSub,Array.replicate_succ,Array.replicate_zero,List.push_toArray,List.append_toArray,List.nil_append,List.cons_append]
 gi_wp2
 gi_loopw [4] (λi wr=>∃(k:Nat) (ys:List (Fin N)),k<=N/\i=.int .i64 ((8*k:Nat):Int)/\ys.map (λx=>x.val)=List.range k/\J ys wr/\alj Bs Bn b off N wr)
  (λi _=>8*N-(intOf i).toNat)
 case atStart=>exact⟨0,[],Nat.zero_le _,rfl,rfl,h0,hB⟩
 case round=>
  obtain⟨k,ys,hk,rfl,hys,hJs,hOk⟩:=hrel;obtain⟨⟨o,cap,ho,hcap,c1⟩,c2⟩:=hOk;have hlen:ys.length=k:=by have:=congrArg List.length hys;simpa using this
  by_cases hlt:k<N
  ·obtain rfl:=ho V;have hlt':((8*k:Nat):Int)<((8*N:Nat):Int):=V
   have hJd:J ys wr.drew:=hJ ys wr wr.drew none hJs ⟨rfl,rfl,rfl,Nat.le_refl _,λ_ _ _=>rfl⟩ (λr e=>by cases e);obtain⟨fn,tmps,assign,body,hy,hR⟩:=hY ys ⟨k,hlt⟩ wr.drew hJd V;have hmx:Tryz.prog.follows .mixedOrders=true:=Z
   gi_wp2
   gi_region
   gi_wp2
   refine hR.mono ?_;rintro e W3 (⟨rfl,hJ3,hk3⟩|⟨rfl,hJx3⟩)
   ·have hc3:=hk3 ⟨⟨o,cap,λ_=>rfl,hcap,c1⟩,c2⟩;have hc4:=hc3;obtain⟨⟨o3,cap3,ho3,avK,c3⟩,c4⟩:=hc4
    gi_wp2
    go_roundw
    case rel=>exact⟨k+1,ys++[⟨k,hlt⟩],V,by congr 1 <;> omega,by rw[List.map_append,hys,List.range_succ];rfl,hJ3,hc3⟩
    case measure=>simp[intOf] <;> omega
   ·gi_wp2
    refine bodyPost_ret (results_none rfl _ _ _) rfl ?_;exact⟨⟨_,rfl⟩,.inr ⟨_,trivial,hJx3⟩⟩
  ·obtain rfl:k=N:=V
   gi_wp2
   go_end0
   exact⟨⟨_,rfl⟩,.inl ⟨ys,hys,hJs⟩⟩
def Va(n:Nat)(hn:1<=n)(Bs Bn b off N:Nat)(hN:N<=1000)(w:Xs)(h1:Bs<w.heap.size)(h2:Bn<w.heap.size)(hB:alj Bs Bn b off N w):
  SeqStopsK Fence.wide n Tryz.prog 214 #[.pointer (ZC ⟨Bs,0,Z1⟩),.pointer (ZC ⟨Bn,0,Z1⟩)] (λx:Fin N=>#[.slice (ZC ⟨b,off+8*x.val,Z1⟩) 8 8]) (KpC (alj Bs Bn b off N)) (λys=>ys.map (λx=>x.val)=List.range N) (λ_=>True) N w:=λl J Jx W hW hJ _ hY h0=>by
 have⟨⟨o,c,ho,hc,e1⟩,e2⟩:=hB;exact acQ n hn l Bs Bn b off N hN J Jx W hJ hY ⟨⟨o,c,ho,hc,(hW.cell (p:=⟨Bs,0,Z1⟩) h1).trans e1⟩,(hW.cell (p:=⟨Bn,0,Z1⟩) h2).trans e2⟩ h0
end
end Go.Proofs.YtgplhpgkompkmaaGreat
