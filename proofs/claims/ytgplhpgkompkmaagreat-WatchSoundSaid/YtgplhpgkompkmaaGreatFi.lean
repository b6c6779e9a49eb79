/-
  Own work, a part.
-/
import Derived.Shelf.SlGeneric
import Derived.Ground.SlgmProg
import Derived.Ground.GgzProg
import Derived.Shelf.SortM.SortNone
import Derived.Shelf.SortM.Plain
import Derived.Shelf.SlIterI.Nil
import Derived.Test.YtgplhpgkompkmaaGreatProg
import Derived.KernelRfl
import Derived.Test.YtgplhpgkompkmaaGreatFh
set_option linter.all false
namespace Go.Proofs
open Go.Shelf
def Tryz.sortedA_ren:Go.Shelf.Ren:=⟨fun|6=>45|8=>86|9=>73|11=>127|13=>118|12=>117|23=>171|24=>172|14=>162|15=>163|16=>164|17=>165|18=>166|19=>167|20=>168|21=>169|22=>170|25=>205|26=>206|27=>207|28=>208|29=>209|30=>210|31=>233|n=>n,fun|26=>3|28=>109|24=>22|0=>0|3=>3|37=>203|48=>260|50=>262|4=>4|40=>254|39=>253|45=>215|5=>5|9=>9|51=>304|55=>308|57=>324|58=>84|33=>140|n=>n,fun|n=>n⟩
def Tryz.sortedA:Go.Proofs.SlLaysZI.n6 Tryz.prog Tryz.sortedA_ren:={
 mixed:=by kernel_rfl
 f6:=⟨Tryz.f45.name,by decide,Tryz.func45.trans (congrArg some (by kernel_rfl))⟩
 f8:=⟨Tryz.f86.name,by decide,Tryz.func86.trans (congrArg some (by kernel_rfl))⟩
 f11:=⟨Tryz.f127.name,by decide,Tryz.func127.trans (congrArg some (by kernel_rfl))⟩
 t0:=Tryz.underlying0
 a0:=Tryz.isAgg0
 z0:=Tryz.sizeOf0
 v0:=Tryz.zeroValue0
 t24:=Tryz.underlying22
 a24:=Tryz.isAgg22
 z24:=Tryz.sizeOf22
 v24:=Tryz.zeroValue22
 t26:=Tryz.underlying3
 a26:=Tryz.isAgg3
 z26:=Tryz.sizeOf3
 v26:=Tryz.zeroValue3
 t28:=Tryz.underlying109
 a28:=Tryz.isAgg109
 z28:=Tryz.sizeOf109
 v28:=Tryz.zeroValue109
 i26:=by kernel_rfl }
def Tryz.keysA_ren:Go.Shelf.Ren:=⟨fun|7=>224|10=>239|n=>n,fun|23=>216|26=>3|3=>320|28=>109|0=>0|27=>108|33=>140|4=>4|n=>n,fun|n=>n⟩
def Tryz.keysA:Go.Proofs.SlLaysZI.n7 Tryz.prog Tryz.keysA_ren:={
 mixed:=by kernel_rfl
 f7:=⟨Tryz.f224.name,by decide,Tryz.func224.trans (congrArg some (by kernel_rfl))⟩
 f10:=⟨Tryz.f239.name,by decide,Tryz.func239.trans (congrArg some (by kernel_rfl))⟩
 t0:=Tryz.underlying0
 a0:=Tryz.isAgg0
 z0:=Tryz.sizeOf0
 v0:=Tryz.zeroValue0
 t4:=Tryz.underlying4
 a4:=Tryz.isAgg4
 z4:=Tryz.sizeOf4
 v4:=Tryz.zeroValue4
 t23:=Tryz.underlying216
 a23:=Tryz.isAgg216
 z23:=Tryz.sizeOf216
 v23:=Tryz.zeroValue216
 t26:=Tryz.underlying3
 a26:=Tryz.isAgg3
 z26:=Tryz.sizeOf3
 v26:=Tryz.zeroValue3
 t27:=Tryz.underlying108
 a27:=Tryz.isAgg108
 z27:=Tryz.sizeOf108
 v27:=Tryz.zeroValue108
 t28:=Tryz.underlying109
 a28:=Tryz.isAgg109
 z28:=Tryz.sizeOf109
 v28:=Tryz.zeroValue109
 t33:=Tryz.underlying140
 a33:=Tryz.isAgg140
 z33:=Tryz.sizeOf140
 v33:=Tryz.zeroValue140 }
def Tryz.sortA_ren:Go.Shelf.Ren:=⟨fun|5=>73|8=>118|7=>117|19=>171|20=>172|10=>162|11=>163|12=>164|13=>165|14=>166|15=>167|16=>168|17=>169|18=>170|30=>205|31=>206|32=>207|33=>208|34=>209|35=>210|40=>233|n=>n,fun|23=>22|25=>3|3=>3|32=>203|22=>22|0=>0|44=>260|46=>262|4=>4|36=>254|35=>253|41=>215|5=>5|9=>9|53=>304|57=>308|63=>324|64=>84|n=>n,fun|n=>n⟩
def Tryz.sortA:Go.Proofs.SlLaysM.n5 Tryz.prog Tryz.sortA_ren:={
 mixed:=by kernel_rfl
 f5:=⟨Tryz.f73.name,by decide,Tryz.func73.trans (congrArg some (by kernel_rfl))⟩
 f7:=⟨Tryz.f117.name,by decide,Tryz.func117.trans (congrArg some (by kernel_rfl))⟩
 f8:=Tryz.func118.trans (congrArg some (by kernel_rfl))
 f10:=⟨Tryz.f162.name,by decide,Tryz.func162.trans (congrArg some (by kernel_rfl))⟩
 f11:=⟨Tryz.f163.name,by decide,Tryz.func163.trans (congrArg some (by kernel_rfl))⟩
 f12:=⟨Tryz.f164.name,by decide,Tryz.func164.trans (congrArg some (by kernel_rfl))⟩
 f13:=⟨Tryz.f165.name,by decide,Tryz.func165.trans (congrArg some (by kernel_rfl))⟩
 f14:=⟨Tryz.f166.name,by decide,Tryz.func166.trans (congrArg some (by kernel_rfl))⟩
 f15:=⟨Tryz.f167.name,by decide,Tryz.func167.trans (congrArg some (by kernel_rfl))⟩
 f16:=⟨Tryz.f168.name,by decide,Tryz.func168.trans (congrArg some (by kernel_rfl))⟩
 f17:=⟨Tryz.f169.name,by decide,Tryz.func169.trans (congrArg some (by kernel_rfl))⟩
 f18:=⟨Tryz.f170.name,by decide,Tryz.func170.trans (congrArg some (by kernel_rfl))⟩
 f19:=Tryz.func171.trans (congrArg some (by kernel_rfl))
 f20:=Tryz.func172.trans (congrArg some (by kernel_rfl))
 f30:=⟨Tryz.f205.name,by decide,Tryz.func205.trans (congrArg some (by kernel_rfl))⟩
 f31:=Tryz.func206.trans (congrArg some (by kernel_rfl))
 f32:=Tryz.func207.trans (congrArg some (by kernel_rfl))
 f33:=⟨Tryz.f208.name,by decide,Tryz.func208.trans (congrArg some (by kernel_rfl))⟩
 f34:=⟨Tryz.f209.name,by decide,Tryz.func209.trans (congrArg some (by kernel_rfl))⟩
 f35:=⟨Tryz.f210.name,by decide,Tryz.func210.trans (congrArg some (by kernel_rfl))⟩
 f40:=⟨Tryz.f233.name,by decide,Tryz.func233.trans (congrArg some (by kernel_rfl))⟩
 t0:=Tryz.underlying0
 a0:=Tryz.isAgg0
 z0:=Tryz.sizeOf0
 v0:=Tryz.zeroValue0
 t3:=Tryz.underlying3
 a3:=Tryz.isAgg3
 z3:=Tryz.sizeOf3
 v3:=Tryz.zeroValue3
 t4:=Tryz.underlying4
 a4:=Tryz.isAgg4
 z4:=Tryz.sizeOf4
 v4:=Tryz.zeroValue4
 t5:=Tryz.underlying5
 a5:=Tryz.isAgg5
 z5:=Tryz.sizeOf5
 v5:=Tryz.zeroValue5
 t9:=Tryz.underlying9
 a9:=Tryz.isAgg9
 z9:=Tryz.sizeOf9
 v9:=Tryz.zeroValue9
 t22:=Tryz.underlying22
 a22:=Tryz.isAgg22
 z22:=Tryz.sizeOf22
 v22:=Tryz.zeroValue22
 t23:=Tryz.underlying22
 a23:=Tryz.isAgg22
 z23:=Tryz.sizeOf22
 v23:=Tryz.zeroValue22
 t25:=Tryz.underlying3
 a25:=Tryz.isAgg3
 z25:=Tryz.sizeOf3
 v25:=Tryz.zeroValue3
 t32:=Tryz.underlying203
 a32:=Tryz.isAgg203
 z32:=Tryz.sizeOf203
 v32:=Tryz.zeroValue203
 t35:=Tryz.underlying253
 a35:=Tryz.isAgg253
 z35:=Tryz.sizeOf253
 v35:=Tryz.zeroValue253
 t36:=Tryz.underlying254
 a36:=Tryz.isAgg254
 z36:=Tryz.sizeOf254
 v36:=Tryz.zeroValue254
 t41:=Tryz.underlying215
 a41:=Tryz.isAgg215
 z41:=Tryz.sizeOf215
 v41:=Tryz.zeroValue215
 t44:=Tryz.underlying260
 a44:=Tryz.isAgg260
 z44:=Tryz.sizeOf260
 v44:=Tryz.zeroValue260
 t46:=Tryz.underlying262
 a46:=Tryz.isAgg262
 z46:=Tryz.sizeOf262
 v46:=Tryz.zeroValue262
 t53:=Tryz.underlying304
 a53:=Tryz.isAgg304
 z53:=Tryz.sizeOf304
 v53:=Tryz.zeroValue304
 t57:=Tryz.underlying308
 a57:=Tryz.isAgg308
 z57:=Tryz.sizeOf308
 v57:=Tryz.zeroValue308
 t63:=Tryz.underlying324
 a63:=Tryz.isAgg324
 z63:=Tryz.sizeOf324
 v63:=Tryz.zeroValue324
 t64:=Tryz.underlying84
 a64:=Tryz.isAgg84
 z64:=Tryz.sizeOf84
 v64:=Tryz.zeroValue84 }
end Go.Proofs
namespace Go.Proofs.YtgplhpgkompkmaaGreat
open Option renaming some->ZC,none->Z1
open Bool renaming true->Z0,false->ZV
open Decidable renaming decide->u,decide->YM
noncomputable section
open Go.RowKit Go.Maps Go.Sort Go.Shelf
def XG {α:Type}(F:Fence)(n:Nat)(P:XX)(g:Nat)(lb:Array XS)(enc:α->XS)(S:Q α->Prop)(N:Nat)(w:Xs):Prop:=
 ∀(l:Nat) (J:Q α->Xs->Prop) (W:Xs),Below w.heap.size w W->AbidesFrom W.heap.size J->(∀b d,J b d->Below w.heap.size w d)->
  (∀b x h,J b h->b.length<N->YieldAt F (n-1) P l #[enc x] h λe d=>e=.returned (.bool Z0)/\J (b++[x]) d/\KeepsWalks h d)->
  J [] W->CallsIn F n P g (#[.func (.yield l) #[] #[]]++lb) W λe d=>(∃v,e=.returned v)/\∃xs,S xs/\J xs d
section
variable {P:Program}{ρ:Go.Shelf.Ren}
set_option maxRecDepth 100000 in
set_option maxHeartbeats 2000000 in
theorem YZ(L:SlLaysZI.n11 P ρ)(F:Fence)(n:Nat)(h11:F.fn (ρ.f 11))(hro:F.round=Z1)(hn:2<=n)(g:Nat)(lb:Array XS)(hFg:F.fn g)(eg:∀args w,(callFunc g args).run P w=.ok (.enter g args) w)
  (S:Q Int->Prop) (N:Nat) (hN:N<=maxLen) (hNb:N*8<=140737488355328) (w:Xs) (hseq:XG F (n-1) P g lb encZ S N w):
  CallsIn F n P (ρ.f 11) #[.slice Z1 0 0,.func (.func g) #[] lb] w λe w'=>∃(v:XS) (ss:Q Int),e=.returned v/\S ss/\w'.ownsRow w.heap.size (ρ.t 26) 1 v ss.length (ss.map encZ)/\(v=.slice Z1 0 0↔ss=[])/\Below w.heap.size w w':=by
 have h1:1<=n:=V
 have mixed:=L.mixed;have t0:=L.t0;have a0:=L.a0;have z0:=L.z0;have v0:=L.v0;have t24:=L.t24;have a24:=L.a24;have z24:=L.z24;have v24:=L.v24;have t26:=L.t26;have a26:=L.a26;have z26:=L.z26;have v26:=L.v26;have t28:=L.t28;have a28:=L.a28;have z28:=L.z28;have v28:=L.v28;have u0:=zae L.t0;have u24:=zae L.t24;have u26:=zae L.t26;have u28:=zae L.t28;have hne:ρ.t 24≠ρ.t 26:=λe=>by have h:=L.t24;rw[e,L.t26]at h;cases h
 have⟨_,_,FG⟩:=L.f11;refine callsIn_of_wp_marks FG Z3 h11 ?_ hro;simp only[SlBodyZ.n11_ntmps ρ,List.size_toArray,List.length_cons,List.length_nil,Nat.reduceAdd,Nat.reduceSub,Array.replicate_succ,Array.replicate_zero,List.push_toArray,List.append_toArray,List.nil_append,List.cons_append]
 gi_wp2
 refine wpIn_rangeFunc ?_;intro fn hfn;rw[hro];have⟨W0,hW0⟩:∃W0,w.alloc (.cells #[.slice Z1 0 0] (ρ.t 24))=W0:=⟨_,Z3⟩
 have hs0:W0.heap.size=w.heap.size+1:=by rw[<-hW0];simp
 have hv0:W0.heap[w.heap.size]?=ZC (.cells #[.slice Z1 0 0] (ρ.t 24) (0,0)):=by rw[<-hW0];exact World.alloc_heap_new w _
 have hb0:Below w.heap.size w W0:=by rw[<-hW0];exact(Below.refl _ w).alloc (Nat.le_refl _) _
 rw[hW0];have⟨W1,hW1⟩:∃W1,(W0.alloc (.deferred (ZC []))).alloc (.loop (AnyZI.apRec ρ fn (.func (.func g) #[] lb) w.heap.size W0.heap.size .ready Z1))=W1:=⟨_,Z3⟩
 have hold:∀k,k<W0.heap.size->W1.heap[k]?=W0.heap[k]?:=λk hk=>by
  rw[<-hW1];exact(Below.heap_alloc _ _ k (by simp;omega)).trans (Below.heap_alloc _ _ k hk)
 have hb1:Below w.heap.size w W1:=by rw[<-hW1];exact(hb0.alloc hb0.size _).alloc (by have:=hb0.size;simp;omega) _
 have hs1:W1.heap.size=W0.heap.size+2:=by rw[<-hW1];simp
 have hM:AnyZI.ApAt ρ w fn (.func (.func g) #[] lb) w.heap.size (W0.heap.size+1) W0.heap.size [] W1:=
  ⟨⟨_,(hold w.heap.size V).trans hv0,⟨Z3,.inl ⟨Z3,Z3⟩⟩,O⟩,
   by rw[<-hW1];have:=World.alloc_heap_new (W0.alloc (.deferred (ZC []))) (.loop (AnyZI.apRec ρ fn (.func (.func g) #[] lb) w.heap.size W0.heap.size .ready Z1));rwa [World.size_alloc]at this,
   by rw[<-hW1];exact(Below.heap_alloc _ _ _ O).trans (World.alloc_heap_new W0 _),hb1⟩
 refine⟨W0.heap.size+1,[{ target:=.collected W0.heap.size,args:=#[] }],W1,{ target:=.fn (.func g) lb,args:=#[.func (.yield (W0.heap.size+1)) #[] #[]] },W1,g,
  #[.func (.yield (W0.heap.size+1)) #[] #[]]++lb,W1,?_,?_,?_,?_,λ_=>h1,?_⟩
 ·rw[<-hW1];exact run_enterLoop_outer _ _ _ _ _
 ·simp[resolve,go_sem]
 ·intro f' hf';simp[Target.leads]at hf';subst hf';exact hFg
 ·simp[invoke,go_sem,eg]
 ·refine(hseq (W0.heap.size+1) (AnyZI.ApAt ρ w fn (.func (.func g) #[] lb) w.heap.size (W0.heap.size+1) W0.heap.size) W1 hb1 (AnyZI.ap_abides ρ _ _ _ _ _ _ _ hb1.size) (λ_ _ h=>h.below)
   (λpre x W hJ hl=>AnyZI.apYield { L with } F (n-1-1) w fn hfn _ w.heap.size (W0.heap.size+1) W0.heap.size V V V (Nat.le_refl _) V N hN hNb pre x W hJ hl) hM).mono ?_
  rintro e W2 ⟨⟨v0,rfl⟩,ss,hS,h2⟩;have⟨v,hv,hrow,hnil⟩:=h2.box;have hend:=run_endLoop (P:=P) h2.L (by simp[AnyZI.apRec]);have⟨W3,hW3⟩:∃W3,W2.putObj (W0.heap.size+1) (.loop { AnyZI.apRec ρ fn (.func (.func g) #[] lb) w.heap.size W0.heap.size .ready Z1 with state:=.exhausted })=W3:=⟨_,Z3⟩
  rw[hW3]at hend;have hg3:W2.grownBy W3 (ZC (W0.heap.size+1)):=by rw[<-hW3];exact grownBy_putObj_a _ _ _
  have hv3:W3.heap[w.heap.size]?=ZC (.cells #[v] (ρ.t 24) (0,0)):=by rw[<-hW3];exact(World.putObj_heap_other V).trans hv
  have hK3:W3.heap[W0.heap.size]?=ZC (.deferred (ZC [])):=by rw[<-hW3];exact(World.putObj_heap_other V).trans h2.K
  have hrow3:=hrow.kept hg3 (ownsRow_ne_a hrow h2.L (λcur e=>by first|cases e|exact hne (Obj.cells.inj e).2.1));have hb3:Below w.heap.size w W3:=h2.below.grown hg3 h2.below.size (λk e=>by cases e;omega);have⟨hc3,hf3⟩:=cell_of_box_a hv3
  clear hW3
  refine⟨Z1,W3,hend,?_⟩
  gi_wp2
  rw[<-hs0];refine⟨O,.inl ⟨_,_,Z3,run_takeDeferred hK3,?_⟩⟩;exact⟨_,results_tmp Z3 _ _ _,v,ss,Z3,hS,hrow3.kept (grownBy_putObj_a _ _ _) (ownsRow_ne_a hrow3 hK3 (λcur e=>by first|cases e|exact hne (Obj.cells.inj e).2.1)),hnil,hb3.grown (grownBy_putObj_a _ _ _) hb3.size (λk e=>by cases e;omega)⟩
set_option maxRecDepth 100000 in
set_option maxHeartbeats 2000000 in
theorem afO(L:SlLaysZI.n8 P ρ)(F:Fence)(n:Nat)(q:F.fn (ρ.f 8))(k:F.fn (ρ.f 11))(d:F.round=Z1)(hn:3<=n)(g:Nat)(lb:Array XS)(m:F.fn g)(u:∀args w,(callFunc g args).run P w=.ok (.enter g args) w)
  (S:Z2 Int->Prop) (N:Nat) (y:N<=maxLen) (o:N*8<=140737488355328) (w:Xs) (h:XG F (n-1-1) P g lb encZ S N w):
  CallsIn F n P (ρ.f 8) #[.func (.func g) #[] lb] w λe w'=>∃(v:XS) (b:Z2 Int),e=.returned v/\S b/\w'.ownsRow w.heap.size (ρ.t 26) 1 v b.length (b.map encZ)/\(v=.slice Z1 0 0↔b=[])/\Below w.heap.size w w':=by
 have h1:1<=n:=V
 have p:=L.mixed;have t0:=L.t0;have a0:=L.a0;have z0:=L.z0;have v0:=L.v0;have z:=L.t24;have A:=L.a24;have C:=L.z24;have D:=L.v24;have E:=L.t26;have G:=L.a26;have H:=L.z26;have K:=L.v26;have M:=L.t28;have Q:=L.a28;have R:=L.z28;have T:=L.v28;have u0:=zae L.t0;have W:=zae L.t24;have X:=zae L.t26;have aa:=zae L.t28;have ab:∀args w,(callFunc (ρ.f 11) args).run P w=.ok (.enter (ρ.f 11) args) w:=L.f11.enters Z3;have⟨_,_,FG⟩:=L.f8;refine callsIn_of_wp FG Z3 q ?_ d;simp only[SlBodyZ.n8_ntmps ρ,List.size_toArray,List.length_cons,List.length_nil,Nat.reduceAdd,Nat.reduceSub,Array.replicate_succ,Array.replicate_zero,List.push_toArray,List.append_toArray,List.nil_append,List.cons_append]
 gi_wp2_with (gi_at_fn (ρ.f 11);refine(YZ { L with } F (n-1) k d V g lb m u S N y o _ h).mono ?_;rintro e w' ⟨v,b,rfl,hS,i,j,hb⟩)
 go_ret
 exact⟨v,b,Z3,hS,i,j,hb⟩
set_option maxRecDepth 100000 in
set_option maxHeartbeats 2000000 in
theorem alo(L:SlLaysZI.n6 P ρ)(F:Fence)(n:Nat)(M:F.fn (ρ.f 6))(Q:F.fn (ρ.f 8))(h9:F.fn (ρ.f 9))(q:F.fn (ρ.f 11))(m:F.round=Z1)(hn:4<=n)(d:AnyZI.SortsIn P ρ F (n-1))(e9:∀args w,(callFunc (ρ.f 9) args).run P w=.ok (.enter (ρ.f 9) args) w)(g:Nat)(lb:Array XS)(u:F.fn g)(R:∀args w,(callFunc g args).run P w=.ok (.enter g args) w)
  (S:Z2 Int->Prop) (N:Nat) (T:N<=maxLen) (z:N*8<=140737488355328) (w:Xs) (A:∀b,S b->b.length<=N) (o:XG F (n-1-1-1) P g lb encZ S N w):
  CallsIn F n P (ρ.f 6) #[.func (.func g) #[] lb] w λe w'=>∃(v:XS) (b:Z2 Int),e=.returned v/\S b/\
   w'.ownsRow w.heap.size (ρ.t 26) 1 v b.length ((b.mergeSort (λx y=>YM (x<=y))).map encZ)/\(v=.slice Z1 0 0↔b=[])/\Below w.heap.size w w':=by
 have h1:1<=n:=V
 have C:=L.mixed;have t0:=L.t0;have a0:=L.a0;have z0:=L.z0;have v0:=L.v0;have X:=L.t24;have aa:=L.a24;have ab:=L.z24;have ad:=L.v24;have ae:=L.t26;have af:=L.a26;have ag:=L.z26;have ai:=L.v26;have al:=L.t28;have am:=L.a28;have ao:=L.z28;have ap:=L.v28;have u0:=zae L.t0;have aq:=zae L.t24;have ar:=zae L.t26;have aw:=zae L.t28;have e8:∀args w,(callFunc (ρ.f 8) args).run P w=.ok (.enter (ρ.f 8) args) w:=L.f8.enters Z3;have⟨_,_,FG⟩:=L.f6;refine callsIn_of_wp FG Z3 M ?_ m;simp only[SlBodyZ.n6_ntmps ρ,List.size_toArray,List.length_cons,List.length_nil,Nat.reduceAdd,Nat.reduceSub,Array.replicate_succ,Array.replicate_zero,List.push_toArray,List.append_toArray,List.nil_append,List.cons_append]
 gi_wp2_with (gi_at_fn (ρ.f 8);refine(afO { L with } F (n-1) Q q m V g lb u R S N T z _ o).mono ?_;rintro e W ⟨v,b,rfl,D,i,p,hb⟩)
 rcases i.2 with⟨rfl,hz⟩|⟨E,G,cur,rfl,h,k,r1,r2,r3,r4⟩
 ·
  have H:b=[]:=List.eq_nil_of_length_eq_zero hz;subst H
  gi_wp2_with (gi_at_fn (ρ.f 9);refine(d.2 Z1 0 W).mono ?_;rintro e w' ⟨rfl,rfl⟩)
  go_ret
  exact⟨.slice Z1 0 0,[],Z3,D,by simpa using i,O,hb⟩
 ·have hH:Holds encZ W E 0 b.toArray:=holds_of_block_i k (by simpa using r4);have K:E<W.heap.size:=(Array.getElem?_eq_some_iff.1 k).1;have hsz:b.length<4611686018427387904:=by have:=A b D;omega
  have cS:=d.1 E 0 G b W hH K hsz
  gi_wp2_with (gi_at_fn (ρ.f 9);refine cS.mono ?_;rintro e w' ⟨rfl,nn,os,rfl⟩)
  go_ret
  exact⟨_,b,Z3,D,ownsRow_sorted_i O h k r1 r2 r3,p,hb.grown (grownBy_sorted_i _) hb.size (λj hj=>by cases hj;exact h)⟩
end
open Go.RowKit Go.Maps Go.Sort Go.Shelf
def Vf(m:Nat):AnyZI.SortsIn Tryz.prog Tryz.sortedA_ren Fence.wide m:=
 ⟨λblk off b e W g d hsz=>callsIn_wide.2 (AnyM.slices_Sort_int Tryz.sortA blk off b e W g d hsz),
  λp b W=>callsIn_wide.2 (AnyM.slices_Sort_int_none Tryz.sortA p b W)⟩
abbrev alp:Value->Option (DataW Unit × List MemPlace):=λ_=>some (.lit (.bool true),[])
def ajv {ρ:Ren}{H:ah}{w w':Xs}(R:Rel ρ H w)(hb:Below w.heap.size w w'){v:XS}{zs:Q Int}{e:XN}(h0:zs≠[])(h:w'.ownsRow w.heap.size e 1 v zs.length (zs.map encZ)):
  RV ρ H.gen w' (.vs zs.length 1 (zs.map λn=>.s (.int .i64 n))) v:=by
 obtain⟨_,⟨rfl,d⟩|⟨g,i,cur,rfl,d,k,p,y,z,q⟩⟩:=h
 ·exact absurd (List.eq_nil_of_length_eq_zero d) h0
 ·simp only[RV];refine⟨g,0,i,W,p,O,(Array.getElem?_eq_some_iff.1 k).1,QB R d,?_⟩;have key:∀(l:Q Int) (o:Nat),(∀j,j<l.length->w'.cell? ⟨g,o+j,Z1⟩=(l[j]?).map encZ)->RVc ρ H.gen w' (l.map λn=>.s (.int .i64 n)) g o:=by
   intro l
   induction l with
   |nil=>intro o _;simp only[List.map_nil,RVc]
   |cons a l u=>
    intro o hc;simp only[List.map_cons,RVc];refine⟨⟨encZ a,by have:=hc 0 O;simpa using this,by simp only[RV]⟩,u (o+1) λj m=>?_⟩;have:=hc (j+1) (by simp only[List.length_cons];omega);rw[show o+(j+1)=o+1+j by omega]at this
    simpa using this
  refine key zs 0 λj m=>?_;rw[Nat.zero_add,Nat.mul_one]at*;have b:cur.toList[j]?=(zs.map encZ)[j]?:=by rw[<-q,List.getElem?_take,YY m]
  rw[List.getElem?_map]at b;unfold World.cell?;simp only[k,<-b,Array.getElem?_toList,Option.isSome_none,Bool.false_eq_true,zaf]
set_option maxRecDepth 100000 in
theorem Vg(F:Fence)(n:Nat)(h:F.fn 87)(b:F.round=Z1)(l g:Nat)(J:Q Int->Xs->Prop)(W:Xs)(j:W.cell? ⟨g,0,Z1⟩=ZC (.slice Z1 0 0))(h0:J [] W):CallsIn F n Tryz.prog 87 #[.func (.yield l) #[] #[],.pointer (ZC ⟨g,0,Z1⟩)] W λe k=>(∃v,e=.returned v)/\J [] k:=by
 refine callsIn_of_wp Tryz.func87 Z3 h ?_ b;simp only[Tryz.ntmps87,List.size_toArray,List.length_cons,List.length_nil,Nat.reduceAdd,Nat.reduceSub,Array.replicate_succ,Array.replicate_zero,List.push_toArray,List.append_toArray,List.nil_append,List.cons_append]
 gi_wp2
 gi_loopw [7] (λi m=>i=.int .i64 0/\J [] m) (λ_ _=>0)
 case atStart=>exact⟨Z3,h0⟩
 case round=>obtain⟨rfl,d⟩:=hrel;gi_wp2;go_end0;exact⟨⟨_,Z3⟩,d⟩
set_option maxRecDepth 100000 in
set_option maxHeartbeats 1000000 in
theorem Vh(F:Fence)(n:Nat)(h7:F.fn 87)(hro:F.round=none)(hn:1<=n)(l Bs b off cap:Nat)(zs:List Int)(hreach:zs.length*8<=140737488351232)(J:List Int->World->Prop)(W:World)(hJ:∀pre W',J pre W'->∀j,j<zs.length->W'.cell? ⟨b,off+j,none⟩=some (.int .i64 (zs[j]?.getD 0)))
  (hY:∀pre x W,J pre W->pre.length<zs.length->YieldAt F (n-1) Tryz.prog l #[encZ x] W λe W'=>e=.returned (.bool true)/\J (pre++[x]) W'/\KeepsWalks W W') (hBs:W.cell? ⟨Bs,0,none⟩=some (.slice (some ⟨b,off,none⟩) zs.length cap)) (h0:J [] W):
  CallsIn F n Tryz.prog 87 #[.func (.yield l) #[] #[],.pointer (some ⟨Bs,0,none⟩)] W λe W'=>(∃v,e=.returned v)/\J zs W':=by
 refine callsIn_of_wp Tryz.func87 rfl h7 ?_ hro;simp only[Tryz.ntmps87,List.size_toArray,List.length_cons,List.length_nil,Nat.reduceAdd,Nat.reduceSub,Array.replicate_succ,Array.replicate_zero,List.push_toArray,List.append_toArray,List.nil_append,List.cons_append]
 gi_wp2
 gi_loopw [7] (λi wr=>∃k:Nat,k<=zs.length/\i=.int .i64 k/\J (zs.take k) wr) (λi _=>zs.length-(intOf i).toNat)
 case atStart=>exact⟨0,Nat.zero_le _,rfl,h0⟩
 case round=>
  obtain⟨k,hk,rfl,hJs⟩:=hrel;have hcx:k<zs.length->wr.cell? ⟨b,off+k,none⟩=some (.int .i64 (zs[k]?.getD 0)):=hJ _ _ hJs k;by_cases hlt:k<zs.length
  ·obtain⟨x,hx⟩:∃x,x=zs[k]?.getD 0:=⟨_,rfl⟩
   have hcx':=hcx hlt;rw[<-hx]at hcx';obtain⟨fn,tmps,assign,body,hy,hR⟩:=hY _ x wr hJs (by rw[List.length_take];omega);simp only[encZ]at hy;have ht:zs.take (k+1)=zs.take k++[x]:=by rw[List.take_add_one,hx,List.getElem?_eq_getElem hlt];rfl
   have hkl:((k:Nat):Int)<(zs.length:Int):=V
   clear hcx hx
   gi_wp2
   refine hR.mono ?_;rintro e W3 ⟨rfl,hJ3,hk3⟩
   gi_wp2
   go_roundw
   case rel=>
    refine⟨k+1,V,O,?_⟩;rw[ht];exact hJ3
   case measure=>simp[intOf];omega
  ·obtain rfl:k=zs.length:=V
   gi_wp2
   go_end0
   rw[List.take_length]at hJs;exact⟨⟨_,rfl⟩,hJs⟩
def Vj:WC 45 (sW yU rW):=by
 have key:∀u H v H',sW yU rW u H=some (v,H')->H'=H/\∃f r g,u=[.fn (.func f) [] [.ref r g 0]]/\f≠0/\
   ((∃z m d,H.get r=.blk g z [.mp m]/\z<gW/\H.get m=.map .i64 d/\f∈yU/\(d.map (·.1)).Nodup/\(d.all λe=>(Lit.int .i64 e.1).wf)=true/\d.length<=1000000/\v=QC (d.map (·.1)))∨
    (∃z,H.get r=.blk g z [.s (.slice none 0 0)]/\z<gW/\f∈rW/\v=aeU)∨
    (∃z cells zs,H.get r=.blk g z [.vs zs.length 1 cells]/\z<gW/\f∈rW/\Iu cells=some zs/\zs.length<=1000/\v=QC zs)):=by
  intro u H v H' h;unfold sW at h;split at h
  ·rename_i f r g;split at h
   ·rename_i g' z m E;split at h
    ·rename_i d hm;split at h
     ·rename_i hc;obtain⟨rfl,h1,Q,h3,h4,h5,h6⟩:=hc;cases h;exact⟨rfl,f,r,_,rfl,Q,.inl ⟨z,m,d,E,h1,hm,h3,h4,h5,h6,rfl⟩⟩
     ·cases h
    ·cases h
   ·rename_i g' z n cells E;split at h
    ·rename_i zs K;split at h
     ·rename_i hc;obtain⟨rfl,h1,Q,h3,rfl,h5⟩:=hc;cases h;exact⟨rfl,f,r,_,rfl,Q,.inr (.inr ⟨z,cells,zs,E,h1,h3,K,h5,rfl⟩)⟩
     ·cases h
    ·cases h
   ·rename_i g' z E;split at h
    ·rename_i hc;obtain⟨rfl,h1,Q,h3⟩:=hc;cases h;exact⟨rfl,f,r,_,rfl,Q,.inr (.inl ⟨z,E,h1,h3,rfl⟩)⟩
    ·cases h
   ·cases h
  ·cases h
 refine⟨KT λu H v H' h ρ w lD R ha=>?_,λu H v H' h=>?_⟩;rotate_left
 ·rw[(key _ _ _ _ h).1];exact Keeps.refl H
 ·obtain⟨rfl,f,r,g,rfl,ad,hh⟩:=key _ _ _ _ h;obtain⟨cf,rfl,h1⟩:=Ut ha;simp only[RV]at h1;obtain⟨fa,fc,rfl,Q,h3⟩:=h1;have ao:fa=#[]:=by simp only[RVs]at Q;exact Array.ext' (by simpa using Q)
  subst ao;obtain⟨cp,rfl,h4⟩:=Ut h3;simp only[RV]at h4;obtain⟨a,rfl,h5,h6⟩:=h4;rcases hh with⟨z,m,d,E,L,hm,hk,ap,aq,af,rfl⟩|⟨z,E,L,hv,rfl⟩|⟨z,cells,zs,E,L,hv,K,af,rfl⟩
  ·have hg:H'.gen r=g:=by simp[ah.gen,E,gG.gen]
   obtain⟨b,sh,h7,rfl⟩:=h6 hg;have tV:=R.obj r b sh h7;simp only[yP,E]at tV;obtain⟨cs,e,o1,o2,o3,o4⟩:=tV;obtain⟨o5,rfl,o7⟩:=o4.1 L;simp only[RVc]at o3;obtain⟨⟨mv,o8,o9⟩,_⟩:=o3;simp only[RV]at o9;obtain⟨bm,rfl,ar⟩:=o9;have aw:=ar (by simp[ah.gen,hm,gG.gen]);have ag:=R.obj m bm 0 aw;simp only[yP,hm]at ag;obtain⟨i,dN,m1,_,m3,m4⟩:=ag;have k:i.toList.map (λx=>x.key)=(d.map (·.1)).map encZ:=by
    have:∀(d:List (Int × AV)) (l:List MapEntry),RVm ρ H'.gen w .i64 d l->l.map (λx=>x.key)=(d.map (·.1)).map encZ:=by
     intro d
     induction d with
     |nil=>intro l hl;simp only[RVm]at hl;subst hl;rfl
     |cons x d ih=>
      intro l hl;obtain⟨n,y⟩:=x;simp only[RVm]at hl;obtain⟨e,ax,rfl,k1,_,k3⟩:=hl;simp only[List.map_cons,k1,ih ax k3]
    exact this d _ m3
   have hsz:i.size=d.length:=by
    have:=congrArg List.length k
    simpa using this
   have T:∀x∈i.toList,∃n,n∈d.map (·.1)/\x.key=encZ n/\Go.WideElems.rd Tryz.prog 3 alp x=some (.int .i64 n,.lit (.bool true)):=by
    intro x hx;have az:x.key∈(d.map (·.1)).map encZ:=by rw[<-k];exact List.mem_map.2 ⟨x,hx,rfl⟩
    obtain⟨n,hn,X⟩:=List.mem_map.1 az;refine⟨n,hn,X.symm,?_⟩;have hw:(Lit.int .i64 n).wf=true:=by
     obtain⟨e,F,rfl⟩:=List.mem_map.1 hn;exact List.all_eq_true.1 aq e F
    have aD:keyOf Tryz.prog 3 x.key=some (.int .i64 n):=by
     rw[<-X];simp[keyOf,mapKey,Tryz.underlying3,hw]
    exact Go.WideElems.rd_mk (R:=alp) (key:=x.key) (val:=x.val) (born:=x.born) (yv:=(.lit (.bool true),[])) aD rfl
   have aE:(i.toList.map (λx=>x.key)).Nodup:=by
    rw[k];exact List.pairwise_map.2 (ap.imp λaL F=>aL (encZ_inj F))
   let D0:DataW Unit:=.map ((i.toList.map (Go.WideElems.rg Tryz.prog 3 alp)).foldr DataW.insert []);have ai:w.ownsMap Tryz.prog 3 alp bm i.size D0:=⟨i,dN,m1,⟨by rw[hsz];unfold maxLen;omega,⟨m4.1,m4.2,aE⟩,λx hx=>by
    obtain⟨n,_,_,h⟩:=T x hx;exact⟨_,h⟩⟩,Nat.le_refl _,rfl⟩
   have aM:(intKeys D0).Perm (d.map (·.1)):=by
    have p1:((i.toList.map (Go.WideElems.rg Tryz.prog 3 alp)).foldr DataW.insert []).Perm (i.toList.map (Go.WideElems.rg Tryz.prog 3 alp)):=Go.WideShapes.sorted_perm _;have p2:=p1.map λp=>Go.intOf p.1;refine p2.trans ?_;have:(i.toList.map (Go.WideElems.rg Tryz.prog 3 alp)).map (λp=>Go.intOf p.1)=d.map (·.1):=by
     rw[List.map_map];have al:∀a b:List Int,a.map encZ=b.map encZ->a=b:=λa b h=>by
      have:=congrArg (List.map λv:Value=>match v with|.int _ n=>n|_=>0) h
      simpa [List.map_map,Function.comp_def,encZ]using this
     refine al _ _ ?_;rw[<-k,List.map_map];refine List.map_congr_left λx hx=>?_;obtain⟨n,_,X,E⟩:=T x hx;simp only[Function.comp_apply,Go.WideElems.rg_of E,Go.intOf,X]
    rw[this]
   have am:Maps.size D0=d.length:=by
    show((i.toList.map _).foldr DataW.insert []).length=_;rw[(Go.WideShapes.sorted_perm _).length_eq,List.length_map,Array.length_toList,hsz]
   have M:b<w.heap.size:=(Array.getElem?_eq_some_iff.1 o1).1;obtain rfl:f=239:=by
    simp only[yU,List.mem_cons,List.not_mem_nil,or_false]at hk;rcases hk with hk|hk
    ·exact hk
    ·exact absurd hk ad
   have A:SeqGives Fence.wide 2 Tryz.prog 239 #[.pointer (some ⟨b,0,none⟩)] encZ (λG=>G.Perm (intKeys D0)) (Maps.size D0) w:=
    AnyZI.keys_gives (ρ:=Tryz.keysA_ren) { Tryz.keysA with } Fence.wide _ trivial rfl V b bm _ D0 w M o8 ai
   have cS:=AnyZI.sorted_in Tryz.sortedA Fence.wide 5 trivial trivial trivial trivial rfl V (Vf _) (enters_of Tryz.func73 Z rfl) 239 #[.pointer (some ⟨b,0,none⟩)] trivial (enters_of Tryz.func239 Z rfl) _ _ (by rw[am];unfold maxLen;omega) (by rw[am];omega) _ A;refine((callsIn_wide (n:=5)).1 cS).mono λe w' ⟨v,G,F,hp,C,D,hB⟩=>?_;obtain⟨r1,r2⟩:=wW R hB;have aa:=hp.trans aM;refine⟨v,ρ,F,r1,?_,r2⟩;unfold QC;split
   ·rename_i K;rw[K]at aa;have:=D.2 aa.eq_nil;subst this;simp only[aeU,RV]
   ·rename_i K;have ae:G.length=(d.map (·.1)).length:=aa.length_eq;rw[mergeSort_of_perm_i aa]at C;have q:((d.map (·.1)).mergeSort leI).length=(d.map (·.1)).length:=List.length_mergeSort _;have:=ajv R hB (zs:=(d.map (·.1)).mergeSort leI) (λh=>K (by
     rw[h]at q;exact List.eq_nil_of_length_eq_zero q.symm)) (by rw[q,<-ae];exact C)
    rw[q]at this;exact this
  ·have hg:H'.gen r=g:=by simp[ah.gen,E,gG.gen]
   obtain⟨b,sh,h7,rfl⟩:=h6 hg;have tV:=R.obj r b sh h7;simp only[yP,E]at tV;obtain⟨cs,e,o1,o2,o3,o4⟩:=tV;obtain⟨o5,rfl,o7⟩:=o4.1 L;simp only[RVc]at o3;obtain⟨⟨mv,o8,o9⟩,_⟩:=o3;simp only[RV]at o9;subst o9;have M:b<w.heap.size:=(Array.getElem?_eq_some_iff.1 o1).1;obtain rfl:f=87:=by simp only[rW,List.mem_cons,List.not_mem_nil,or_false]at hv;rcases hv with hv|hv;exact hv;exact absurd hv ad
   have A:SeqGives Fence.wide 2 Tryz.prog 87 #[.pointer (some ⟨b,0,none⟩)] encZ (λG:List Int=>G=[]) 0 w:=λl J W hW hJ _ h0=>(Vg Fence.wide 2 trivial rfl l b J W ((hW.cell (p:=⟨b,0,none⟩) M).trans o8) h0).mono λe W' ⟨F,hj⟩=>⟨F,[],rfl,hj⟩
   have cS:=AnyZI.sorted_in Tryz.sortedA Fence.wide 5 trivial trivial trivial trivial rfl V (Vf _) (enters_of Tryz.func73 Z rfl) 87 #[.pointer (some ⟨b,0,none⟩)] trivial (enters_of Tryz.func87 Z rfl) _ 0 (Nat.zero_le _) V _ A;refine((callsIn_wide (n:=5)).1 cS).mono λe w' ⟨v,G,F,hp,C,D,hB⟩=>?_;obtain⟨r1,r2⟩:=wW R hB;have:=D.2 hp;subst this;exact⟨_,ρ,F,r1,by simp only[aeU,RV],r2⟩
  ·have hg:H'.gen r=g:=by simp[ah.gen,E,gG.gen]
   obtain⟨b,sh,h7,rfl⟩:=h6 hg;have tV:=R.obj r b sh h7;simp only[yP,E]at tV;obtain⟨cs,e,o1,o2,o3,o4⟩:=tV;obtain⟨o5,rfl,o7⟩:=o4.1 L;simp only[RVc]at o3;obtain⟨⟨mv,o8,o9⟩,_⟩:=o3;simp only[RV]at o9;obtain⟨gb,off,aR,rfl,q1,q2,q3,q4,q5⟩:=o9;have M:b<w.heap.size:=(Array.getElem?_eq_some_iff.1 o1).1;obtain rfl:f=87:=by simp only[rW,List.mem_cons,List.not_mem_nil,or_false]at hv;rcases hv with hv|hv;exact hv;exact absurd hv ad
   have ab:=QD K;have T:∀(l:List Int) (o:Nat),RVc ρ H'.gen w (l.map λn=>.s (.int .i64 n)) gb o->∀j,j<l.length->w.cell? ⟨gb,o+j,none⟩=some (.int .i64 (l[j]?.getD 0)):=by
    intro l
    induction l with
    |nil=>intro o _ j hj;cases hj
    |cons a l ih=>
     intro o h j hj;simp only[List.map_cons,RVc]at h;obtain⟨⟨x,x1,x2⟩,Q⟩:=h;simp only[RV]at x2;subst x2;cases j with
     |zero=>exact x1
     |succ j=>
      have:=ih (o+1) Q j (by simpa using hj);rw[show o+1+j=o+(j+1) by omega]at this
      simpa using this
   have a0:=T zs off (ab ▸ q5);have A:XG Fence.wide 2 Tryz.prog 87 #[.pointer (some ⟨b,0,none⟩)] encZ (λG:List Int=>G=zs) zs.length w:=λl J W hW hA a1 hY h0=>(Vh Fence.wide 2 trivial rfl V l b gb off aR zs V J W (λa2 W' hp j hj=>((a1 a2 W' hp).cell (p:=⟨gb,off+j,none⟩) q3).trans (a0 j hj)) hY ((hW.cell (p:=⟨b,0,none⟩) M).trans o8) h0).mono λe W' ⟨F,hj⟩=>⟨F,zs,rfl,hj⟩
   have cS:=alo Tryz.sortedA Fence.wide 5 trivial trivial trivial trivial rfl V (Vf _) (enters_of Tryz.func73 Z rfl) 87 #[.pointer (some ⟨b,0,none⟩)] trivial (enters_of Tryz.func87 Z rfl) _ zs.length (by unfold maxLen;omega) V _ (λG h=>by rw[h];exact Nat.le_refl _) A;refine((callsIn_wide (n:=5)).1 cS).mono λe w' ⟨v,G,F,hp,C,D,hB⟩=>?_;obtain⟨r1,r2⟩:=wW R hB;subst hp;refine⟨v,ρ,F,r1,?_,r2⟩;unfold QC;split
   ·rename_i K;have:=D.2 K;subst this;simp only[aeU,RV]
   ·rename_i K;have q:(G.mergeSort leI).length=G.length:=List.length_mergeSort _;have:=ajv R hB (zs:=G.mergeSort leI) (λh=>K (by rw[h]at q;exact List.eq_nil_of_length_eq_zero q.symm)) (by rw[q];exact C);rw[q]at this;exact this
open Go.RowKit
def alq:∀x∈akl,WC x.1 x.2:=by
 unfold akl;refine List.forall_mem_cons.2 ⟨Vj,?_⟩;refine List.forall_mem_cons.2 ⟨akm _,?_⟩;refine List.forall_mem_cons.2 ⟨Ve,?_⟩;refine List.forall_mem_cons.2 ⟨akm _,?_⟩;refine List.forall_mem_cons.2 ⟨akm _,?_⟩;refine List.forall_mem_cons.2 ⟨⟨λf b H v H' h=>?_,λb H v H' h=>(by cases h)⟩,λx d=>(by cases d)⟩;simp only at h;split at h <;> cases h
def LK {α:Type}{f:Nat}{p:α}:∀{l:Q (Nat × α)},l.lookup f=ZC p->(f,p)∈l
 |[],h=>by cases h
 |(k,q)::l,h=>by
  rw[List.lookup_cons]at h;split at h
  ·rename_i e;cases h;rw[beq_iff_eq]at e;subst e;simp
  ·exact List.mem_cons_of_mem _ (LK h)
def aqZ:Yw Tryz.prog pol:=λf p h=>alq (f,p) (LK h)
def XH:kQ cl:=(callω_ok (P:=Tryz.prog) aqZ Z).2
open Go.ChangeShapes Go.WideShapes Go.ChangeAt Go.RowKit
def auk:Yw Tryz.prog pol:=
 aqZ
def avP {w:Xs}:ad6 ρ0 w:=⟨λb hb=>(by cases hb),zac⟩
def aul:ownKnob Tryz.prog.godebug=none:=Z
def aq0:laidOutB Tryz.prog=true:=Z
def alr:Tryz.prog.follows .mixedOrders=true:=Z
def afP:Tryz.prog.cellTypes Tryz.prog.depth 24=ZC [3,3,3,3,3,3,3,22,22,22,22,22]:=Z
set_option maxRecDepth 100000 in
theorem aq1 {H:Type}{enc:XN × XS->H}{W:Xs}{r:Reach}{g base:Nat}{i:Nat->Bool}{b:Bool}{v:XS}{d:DataW H}{ps:Q MemPlace}(e:Value.okWide Tryz.prog W r g 24 v)(h:DataW.Trod enc Tryz.prog W base i b 24 v d ps):
  ∃(s:kT) (zi zw zk za zv:Q Int),RV ρ0 G0 W (.agg s.cells) v/\s.Ok zi zw zk za zv:=
 YB Tryz.underlying24 afP Z Z Tryz.underlying3 Z Tryz.underlying22 Z Tryz.underlying3 Z e h
set_option maxRecDepth 100000 in
theorem aq2:aaO Tryz.prog 47 anx:=by
 refine Ur Tryz.underlying47 Z W λi f k d b=>?_
 match i,d,b with
 |0,d,b=>simp at d b;subst d;subst b;exact⟨Tryz.underlying3,W,Z⟩
 |1,d,b=>simp at d b;subst d;subst b;exact⟨Tryz.underlying3,W,Z⟩
 |2,d,b=>simp at d b;subst d;subst b;exact⟨Tryz.underlying3,W,Z⟩
 |3,d,b=>simp at d b;subst d;subst b;exact⟨Tryz.underlying42,W,Z⟩
 |i+4,d,b=>simp at b
set_option maxRecDepth 100000 in
theorem acT {H:Type}{enc:XN × XS->H}{W:Xs}{r:Reach}{g base:Nat}{i:Nat->Bool}{b:Bool}{v:XS}{d:DataW H}{ps:Q MemPlace}(e:Value.okWide Tryz.prog W r g 40 v)(h:DataW.Trod enc Tryz.prog W base i b 40 v d ps):
  ∃(x:AV) (cs:Q Cho),RV ρ0 G0 W x v/\ahL x cs:=
 QN Tryz.underlying40 Z aq2 e h
def XI(p:Pkt){d:Nat}:∀x∈p.av,Frz (d+2) x:=λx b=>by
 simp only[Pkt.av,List.mem_cons,List.not_mem_nil,zan]at b;rcases b with rfl|rfl|rfl|rfl|rfl|rfl|rfl|rfl|rfl <;> first|exact fC|exact sV
section
variable {b:Nat}{H:ah}{g:bG}{q:Nat}
def arX(a c:Bool):bi .neq 4 (B a) (B c)=ZC (B (a !=c)):=by
 rw[Xx];cases a <;> cases c <;> rfl
def aq3(G:Good b H g)(hb:H.base<=b){c:Cfg}{dS:Rows}(h:g q=ZC (EH c dS))(ak state head:Int)(data:Z2 Int)(T:data.length<1000000000):
  ∃H',cl 240 [.ref q 0 0,I ak,I state,I head,dat data] H=ZC (I (jr c dS ak state head data).2,H')/\Good b H' (upd g q (EH c (jr c dS ak state head data).1))/\Step b H H':=by
 have⟨r,k,W,_⟩:=G.map h (i:=8) Z3;have j:=W (.agg #[.int .i64 0,.int .i64 0,.slice Z1 0 0]) ak Z0;rw[vk]at j;have e:H.base<=H.next:=Nat.le_trans hb G.1
 refine kN Z3 Z3 (aqw _ _ _ _ _ _ _) ?_;cases y:jw dS ak with
 |none=>
  simp only[y,Option.map_none,zad]at j;have p:jr c dS ak state head data=(dS,3):=by simp only[jr,y]
  have X:AV.cells (.s (.agg #[.int .i64 0,.int .i64 0,.slice Z1 0 0]))=[zI,zI,zN]:=rfl;have zn:zN.aU=true:=rfl;rw[p];refine⟨H.new (.blk 0 95 [zI,zI,zN]),?_,by rw[fP h];exact G.new _,Step.new _ G.1⟩;simp only[Int.reduceNeg,Nat.reduceAdd,aI,xq_,hq_,yX,k,j,X,zn,e,Bool.not_false]
 |some w=>
  simp only[y,Option.map_some,zad]at j;let H1:=H.new (.blk 0 95 w.av);have E:Good b H1 g:=G.new _;have n:=E.load h (i:=0) (x:=I c.aF) Z3;have A:=E.load h (i:=2) (x:=I c.aP) Z3;have K:=λH=>(gJ H data).lnS;have e5:=λH=>kC H data T;by_cases d:state<0∨2<state∨head < -1∨c.aF<=head
  ·have p:jr c dS ak state head data=(dS,1):=by simp only[jr,y];rw[YY d]
   rw[p];refine⟨H1,?_,by rw[fP h];exact E,Step.new _ G.1⟩;simp only[H1]at n A;by_cases m:state<0
   ·simp only[Int.reduceNeg,Nat.reduceAdd,aI,xq_,hq_,yX,k,j,e,Bool.not_true,m];rfl
   ·by_cases o:2<state
    ·simp only[Int.reduceNeg,Nat.reduceAdd,aI,xq_,hq_,yX,k,j,e,Bool.not_true,m,o];rfl
    ·by_cases u:head < -1
     ·simp only[Int.reduceNeg,Nat.reduceAdd,aI,xq_,hq_,yX,k,j,e,Bool.not_true,m,o,u];rfl
     ·have z:c.aF<=head:=V
      simp only[Int.reduceNeg,Nat.reduceAdd,aI,xq_,hq_,yX,k,j,e,Bool.not_true,m,o,u,n,z];rfl
  ·have m:¬state<0:=λh=>d (.inl h);have o:¬2<state:=λh=>d (.inr (.inl h));have u:¬head < -1:=λh=>d (.inr (.inr (.inl h)));have z:¬c.aF<=head:=λh=>d (.inr (.inr (.inr h)));have C:YM (data≠[])=YM ((data.length:Int)≠0):=by
    cases data with
    |nil=>rfl
    |cons a l=>
     have:((a::l).length:Int)≠0:=by simp only[List.length_cons];omega
     simp only[this,ne_eq,not_false_eq_true,zax];rfl
   by_cases hw:((YM (head=-1) !=YM (state=0)) || (YM (data≠[]) && YM ((data.length:Int)≠c.aP)))=Z0
   ·have p:jr c dS ak state head data=(dS,1):=by simp only[jr,y];rw[Ys d,YY hw]
    rw[p];refine⟨H1,?_,by rw[fP h];exact E,Step.new _ G.1⟩;simp only[H1]at n A;rw[C]at hw;cases v:(YM (head=-1) !=YM (state=0))with
    |true=>
     simp only[Int.reduceNeg,Nat.reduceAdd,aI,xq_,hq_,yX,k,j,e,Bool.not_true,m,o,u,n,z,arX,v];rfl
    |false=>
     rw[v,Bool.false_or,Bool.and_eq_true]at hw;have w1:¬(data.length:Int)=0:=zaB hw.1;have F:¬(data.length:Int)=c.aP:=zaB hw.2;simp only[Int.reduceNeg,Nat.reduceAdd,Nat.reduceLeDiff,aI,xq_,hq_,yX,k,j,e,Bool.not_true,Bool.not_false,m,o,u,n,z,arX,v,K,w1,A,F];rfl
   ·have p:jr c dS ak state head data=(lK dS ak ⟨state,head,if data=[]then w.data else data⟩,0):=by simp only[jr,y];rw[Ys d,Ys hw]
    rw[p];rw[C]at hw;have v:(YM (head=-1) !=YM (state=0))=false:=by cases h1:(YM (head=-1) !=YM (state=0)) <;> simp_all
    rw[v,Bool.false_or]at hw;let L:Row:=⟨state,head,if data=[]then w.data else data⟩
    let M:=H.new (.blk 0 95 L.av);have G2:Good b M g:=G.new _;have⟨r',k1,_,_,k2⟩:=G2.map h (i:=8) Z3;have⟨H',D,Q,m3,m4⟩:=(k2 hb).1 ak (.agg L.av);refine⟨H',?_,?_,(Step.new _ G.1).trans m3⟩
    ·simp only[H1,Row.av]at n A;simp only[M,L,Row.av]at k1 D;by_cases hd:data=[]
     ·subst hd;simp only[zad]at k1 D;have z1:((([]:Z2 Int).length:Nat):Int)=0:=rfl;have z2:(((0:Nat)):Int)=0:=rfl;simp only[Int.reduceLT,Int.reduceNeg,Nat.reduceAdd,aI,xq_,hq_,yX,F6,k,j,e,Bool.not_true,m,o,u,n,z,arX,v,K,z2,Row.av,k1,D]
     ·have w1:¬(data.length:Int)=0:=λh=>hd (List.eq_nil_of_length_eq_zero V);have R:(0:Int)<data.length:=V
      have F:(data.length:Int)=c.aP:=by
       rw[zah (show(data.length:Int)≠0 from w1),Bool.true_and]at hw;exact zar λh=>hw (zah h)
      simp only[hd,zaf]at k1 D;rw[F]at w1 R;simp only[Int.reduceNeg,Nat.reduceAdd,aI,xq_,hq_,yX,F6,k,j,e,Bool.not_true,Bool.not_false,m,o,u,n,z,arX,v,K,F,A,w1,R,e5,Row.av,k1,D]
    ·rw[CZ (λr:Row=>AV.agg r.av)]at Q;exact Q
end
def Y0 {c:Cfg}{dS:Rows}{ak state head:Int}{data:Q Int}(h:(jr c dS ak state head data).2≠0):(jr c dS ak state head data).1=dS:=by
 unfold jr at h ⊢;cases d:jw dS ak with
 |none=>rfl
 |some w=>
  rw[d]at h;simp only at h ⊢;split at h
  ·rename_i b;rw[y b]
  ·rename_i b;rw[F b];split at h
   ·rename_i e;rw[y e]
   ·exact absurd W h
section
variable {b:Nat}{H:ah}{g:bG}{q d tt:Nat}{c:Cfg}{me:Int}{h:Home}
def nS.sub {g':bG}(N:nS g q d tt c me h)(b:uF g g'):nS g' q d tt c me h:=⟨b _ _ N.1,b _ _ N.2.1,b _ _ N.2.2⟩
def LM(G:Good b H g)(N:nS g q d tt c me h)(hd:∀e∈h.dS,e.2.data.length<1000000000)(ak who id:Int):
  cl 196 [.ref q 0 0,I ak,I who,I id] H=ZC (.agg (granted h.dS me ak who id).av,H):=by
 refine bD W W (apT _ _ _ _ _ _) ?_ (mD (XI _));have j:=G.guard.new (.blk 0 81 [zI,zI,zI,zI,zI,zI,zI,zB,zN]);have o:=j.load N.1 (i:=0) (x:=.ref d 0 0) W;have p:=ajr j N.2.1 hd ak;have u:=j.new (.blk 0 95 (iR h.dS ak).av);have v:=u.load N.1 (i:=10) (x:=I me) W;have k:(iR h.dS ak).av[0]?=ZC (I (iR h.dS ak).state):=rfl;have m:(iR h.dS ak).av[1]?=ZC (I (iR h.dS ak).head):=rfl;have n:(iR h.dS ak).av[2]?=ZC (dat (iR h.dS ak).data):=rfl;simp only[Nat.reduceAdd,Nat.reduceLeDiff,aI,xq_,hq_,aiX,o,p,v,k,m,n,zC,jf,fO,Uj,granted,Pkt.av]
def lI(g:bG)(d tt:Nat)(c:Cfg)(h:Home):bG:=upd (upd g d (EH c h.dS)) tt (iU h.bn)
def nS.ne(N:nS g q d tt c me h):q≠d/\q≠tt/\d≠tt:=by
 refine⟨λe=>?_,λe=>?_,λe=>?_⟩
 ·have i:=N.1;have b:=N.2.1;subst e;rw[i]at b;have:=zaj List.length (Option.some.inj b);simp[EI,EH,Cfg.av]at this
 ·have i:=N.1;have b:=N.2.2;subst e;rw[i]at b;have:=zaj List.length (Option.some.inj b);simp[EI,iU,Cfg.av]at this
 ·have i:=N.2.1;have b:=N.2.2;subst e;rw[i]at b;have:=zaj List.length (Option.some.inj b);simp[EH,iU,Cfg.av]at this
def nS.als(N:nS g q d tt c me h)(b:Home):nS (lI g d tt c b) q d tt c me b:=by
 have⟨n1,e,i⟩:=N.ne;exact⟨by unfold lI;rw[bF e,bF n1];exact N.1,by unfold lI;rw[bF i,aQ],by unfold lI;rw[aQ]⟩
def Gl(N:nS g q d tt c me h):lI g d tt c h=g:=by
 have⟨n1,b,e⟩:=N.ne;unfold lI;rw[fP N.2.1,fP N.2.2]
def RH {g':bG}(h:uF g g')(b:Home):uF (lI g d tt c b) (lI g' d tt c b):=(h.both d _).both tt _
def zS(N:nS g q d tt c me h)(t:Turns):lI g d tt c { h with bn:=t }=upd g tt (iU t):=by
 unfold lI;rw[fP N.2.1]
def acU(G:Good b H g)(hb:H.base<=b)(N:nS g q d tt c me h)(p:Pkt)(hl:p.data.length<1000000000):
  ∃H',cl 228 [.ref q 0 0,.agg p.av] H=ZC (I (h.unlock c p).2,H')/\Good b H' (lI g d tt c (h.unlock c p).1)/\Step b H H':=by
 have hb0:H.base<=H.next:=Nat.le_trans hb G.1
 have⟨n1,n2,n3⟩:=N.ne;refine kN W W (aqm _ _ _ _) ?_;let H1:=H.new (.blk 0 81 p.av);have G1:=G.newObj (ty:=81) (xs:=p.av) (aV p);have S1:uF g (upd g H.next (p.av.map Cell.av)):=(uF.refl g).more (G.isNone (Nat.le_refl _)) _;have N1:=N.sub S1;have l1:=G1.load N1.1 (i:=1) (x:=.ref tt 0 0) W;have o1:=LC G1.guard N1.2.2 p.ak;have p1:=G1.load aQ (i:=1) (x:=I p.src) W;have p4:=G1.load aQ (i:=4) (x:=I p.ak) W;have p5:=G1.load aQ (i:=5) (x:=I p.ptr) W;have p6:=G1.load aQ (i:=6) (x:=I p.state) W;have p7:=G1.load aQ (i:=7) (x:=B p.flag) W;have p8:=G1.load aQ (i:=8) (x:=dat p.data) W;by_cases ho:h.bn.owner p.ak=p.src;rotate_left
 ·have hp:h.unlock c p=(h,6):=by simp only[Home.unlock];rw[y ho]
  rw[hp,Gl N];refine⟨H1,?_,G1.sub S1,Step.new _ G.1⟩;simp only[Nat.reduceLT,xq_,Lh,aC (aV p),l1,p4,o1,p1,ho,Bool.not_false];rfl
 ·have l0:=G1.load N1.1 (i:=0) (x:=.ref d 0 0) W;let dd:=if p.flag then p.data else [];have⟨H2,s1,s2,s3⟩:=aq3 G1 (by rw[iO];exact hb) N1.2.1 p.ak p.state p.ptr dd (by simp only[dd];split <;> first|exact hl|exact(by simp));have hd0:dat ([]:Q Int)=zN:=by simp[dat,gu]
  have fl:∀k:AV->M (AV × ah),(if p.flag=Z0 then k (dat p.data)else k zN)=k (dat dd):=λk=>by
   simp only[dd];cases p.flag with
   |true=>rfl
   |false=>simp only[Bool.false_eq_true,zaf,hd0]
  by_cases hz:(jr c h.dS p.ak p.state p.ptr dd).2=0;rotate_left
  ·have hp:h.unlock c p=(h,(jr c h.dS p.ak p.state p.ptr dd).2):=by
    simp only[Home.unlock];rw[F (λhn=>hn ho),F hz]
   rw[hp,Gl N];rw[Y0 hz,fP N1.2.1]at s2;refine⟨H2,?_,s2.sub S1,(Step.new _ G.1).trans s3⟩;have hz':¬(jr c h.dS p.ak p.state p.ptr dd).2=0:=hz;cases hf:p.flag with
   |true=>
    have:dd=p.data:=by simp only[dd,hf,zad]
    rw[this]at s1 hz' ⊢;rw[hf]at p7;simp only[Nat.reduceLT,xq_,Lh,yg,aC (aV p),l1,p4,o1,p1,ho,Bool.not_true,p7,p8,l0,p6,p5,s1,hz',Bool.not_false]
   |false=>
    have:dd=[]:=by simp only[dd,hf,Bool.false_eq_true,zaf]
    rw[this,hd0]at s1;rw[this]at hz' ⊢;rw[hf]at p7;simp only[Nat.reduceLT,xq_,Lh,yg,aC (aV p),l1,p4,o1,p1,ho,Bool.not_true,p7,p8,l0,p6,p5,s1,hz',Bool.not_false]
  ·have hp:h.unlock c p=(⟨(jr c h.dS p.ak p.state p.ptr dd).1,(h.bn.release p.ak p.src).1⟩,(h.bn.release p.ak p.src).2):=by
    simp only[Home.unlock];rw[F (λhn=>hn ho),y hz]
   rw[hp];have hqn:=G.ne N.2.2;have hdn:=G.ne N.2.1;have hhn:=G.ne N.1;have k1:upd (upd g H.next (p.av.map Cell.av)) d (EH c (jr c h.dS p.ak p.state p.ptr dd).1) H.next=ZC (p.av.map Cell.av):=by rw[bF hdn.symm,aQ]
   have k2:upd (upd g H.next (p.av.map Cell.av)) d (EH c (jr c h.dS p.ak p.state p.ptr dd).1) q=ZC (EI d tt c me):=by rw[bF n1];exact N1.1
   have k3:upd (upd g H.next (p.av.map Cell.av)) d (EH c (jr c h.dS p.ak p.state p.ptr dd).1) tt=ZC (iU h.bn):=by rw[bF n3.symm];exact N1.2.2
   have r1:=s2.load k1 (i:=1) (x:=I p.src) W;have r4:=s2.load k1 (i:=4) (x:=I p.ak) W;have rl:=s2.load k2 (i:=1) (x:=.ref tt 0 0) W;have⟨H3,t1,t2,t3⟩:=Ry s2 (by rw[s3.base,iO];exact hb) k3 p.ak p.src;refine⟨H3,?_,t2.sub (RH S1 _),((Step.new _ G.1).trans s3).trans t3⟩;rw[hz]at s1;cases hf:p.flag with
   |true=>
    have:dd=p.data:=by simp only[dd,hf,zad]
    rw[this]at s1;rw[hf]at p7;simp only[Nat.reduceLT,xq_,Lh,yg,aC (aV p),l1,p4,o1,p1,ho,Bool.not_true,p7,p8,l0,p6,p5,s1,rl,r1,r4,t1]
   |false=>
    have:dd=[]:=by simp only[dd,hf,Bool.false_eq_true,zaf]
    rw[this,hd0]at s1;rw[hf]at p7;simp only[Nat.reduceLT,xq_,Lh,yg,aC (aV p),l1,p4,o1,p1,ho,Bool.not_true,p7,p8,l0,p6,p5,s1,rl,r1,r4,t1]
end
section
variable {b:Nat}{H:ah}{g:bG}{q d tt:Nat}{c:Cfg}{me:Int}{h:Home}
abbrev zP9:List AV:=[zI,zI,zI,zI,zI,zI,zI,zB,zN]
def XJ(r:Home × Pkt × Bool × Int):AV:=.tup [.agg r.2.1.av,B r.2.2.1,I r.2.2.2]
def acV(G:Good b H g)(hb:H.base<=b)(N:nS g q d tt c me h)(hc:c.ok=Z0)(hw:(h.bn.wait.map (·.1)).Nodup)(hwl:∀ak,(h.bn.ws ak).length<1000000)(hr:∀e∈h.dS,e.2.data.length<1000000000)(p:Pkt)(hl:p.data.length<1000000000):
  ∃H',cl 198 [.ref q 0 0,.agg p.av] H=ZC (XJ (h.handle c me p),H')/\Good b H' (lI g d tt c (h.handle c me p).1)/\Step b H H':=by
 have hb0:H.base<=H.next:=Nat.le_trans hb G.1
 have⟨n1,n2,n3⟩:=N.ne;refine kN W W (apW _ _ _ _) ?_;let H1:=H.new (.blk 0 81 p.av);let H2:=H1.new (.blk 0 81 zP9);have Ga:=G.newObj (ty:=81) (xs:=p.av) (aV p);have G2:=Ga.newObj (ty:=81) (xs:=zP9) W;let g2:=upd (upd g H.next (p.av.map Cell.av)) (H.next+1) (zP9.map Cell.av);have e12:(H.new (.blk 0 81 p.av)).next=H.next+1:=eu
 have S2:uF g g2:=((uF.refl g).more (G.isNone (Nat.le_refl _)) _).more (G.isNone (Nat.le_succ _)) _;have N2:=N.sub S2;have st2:Step b H H2:=(Step.new _ G.1).trans (Step.new _ (G.new _).1);have hp1:g2 H.next=ZC (p.av.map Cell.av):=by simp only[g2];rw[bF (by omega),aQ]
 have hp2:g2 (H.next+1)=ZC (zP9.map Cell.av):=aQ;have G2':Good b H2 g2:=G2;have p0:=G2'.load hp1 (i:=0) (x:=I p.aW) W;have p1:=G2'.load hp1 (i:=1) (x:=I p.src) W;have p2:=G2'.load hp1 (i:=2) (x:=I p.dst) W;have p3:=G2'.load hp1 (i:=3) (x:=I p.id) W;have p4:=G2'.load hp1 (i:=4) (x:=I p.ak) W;have pa:=G2'.loads hp1 (i:=0) (n:=9) (xs:=p.av) W W (by decide);have l10:=G2'.load N2.1 (i:=10) (x:=I me) W;have l2:=G2'.load N2.1 (i:=2) (x:=I c.aF) W;have l3:=G2'.load N2.1 (i:=3) (x:=I c.aT) W;have la:=G2'.loads N2.1 (i:=2) (n:=8) (xs:=c.av) W W (by decide);have lt:=G2'.load N2.1 (i:=1) (x:=.ref tt 0 0) W;have ck:=BA H2 p;have ho:=xw H2.guard c hc p.ak;have ez:bd 81 []=ZC (.agg zP9):=by simp only[xq_,zC,jf,dX]
 -- the zero packet is laid anew
 have zst:∀{K:ah} {gk:bG},Good b K gk->K.base<=b->gk (H.next+1)=ZC (zP9.map Cell.av)->∀{y:Q AV},y.length=9->y.all AV.aU=Z0->∃K',st 9 (.ref (H.next+1) 0 0) (.agg y) K=ZC (aX,K')/\lda 9 (.ref (H.next+1) 0 0) K'=ZC (.agg y,K')/\Good b K' (upd gk (H.next+1) (y.map Cell.av))/\Step b K K':=by
  intro K gk Gk hk hz y hy ha;have⟨K',t1,t2,t3,t4⟩:=Gk.stores hk hz (i:=0) (n:=9) (vs:=y) (by simp) hy ha;have e:rO (zP9.map Cell.av) 0 y=y.map Cell.av:=by
   unfold rO;rw[List.drop_of_length_le (by simp[hy])];simp
  rw[e]at t2;exact⟨K',t1,t2.loads aQ (i:=0) (n:=9) (xs:=y) (by rw[List.drop_zero,List.take_of_length_le (by simp[hy])]) hy (by decide),t2,t3⟩
 have⟨Hz,z1,z2,z3,z4⟩:=zst G2' (by simp only[H2,H1,iO];exact hb) hp2 (y:=zP9) W W;have Sz:∀{gk:bG} {y:Q Cell},uF gk (upd gk (H.next+1) y)->True:=λ_=>zac;have zg:Good b Hz g:=z3.sub λq' cs h=>by
  have hne:q'≠H.next+1:=λe=>by
   have:=G.lt h;omega
  rw[bF hne];exact S2 _ _ h
 simp only[H2,H1]at p0 p1 p2 p3 p4 pa l10 l2 l3 la lt ck ho z1 z2;have bad:∀e:Int,h.handle c me p=(h,.zero,ZV,e)->∀H',H'=Hz->Good b H' (lI g d tt c (h.handle c me p).1)/\Step b H H':=λe he H' hH=>by
  rw[he,Gl N,hH];exact⟨zg,st2.trans z4⟩
 by_cases h1:(!(p.ok && u (p.dst=me) && u (p.src<c.aF)) || (u (p.aW≠1) && u (p.aW≠2)))=Z0
 ·have hp:h.handle c me p=(h,.zero,ZV,1):=by simp only[Home.handle];rw[YY h1]
  refine⟨Hz,?_,bad 1 hp Hz W⟩;rw[hp];cases hok:p.ok with
  |false=>
   rw[hok]at ck;simp only[Nat.reduceLT,Int.reduceEq,xq_,uh,aC (aV p),pa,ck,Bool.not_false,ez,z1,z2,XJ,fM]
  |true=>
   rw[hok]at ck h1;by_cases hds:p.dst=me
   ·by_cases hsr:p.src<c.aF
    ·simp only[hds,hsr,zax,Bool.and_self,Bool.not_true,Bool.false_or,Bool.and_eq_true,zab]at h1;have k1:=h1.1;have k2:=h1.2;simp only[ne_eq]at k1 k2;simp only[Nat.reduceLT,xq_,uh,aC (aV p),pa,ck,p2,l10,hds,p1,l2,hsr,Bool.not_true,Bool.not_false,p0,k1,k2,ez,z1,z2,XJ,fM]
    ·simp only[Nat.reduceLT,xq_,uh,aC (aV p),pa,ck,p2,l10,hds,p1,l2,hsr,Bool.not_false,ez,z1,z2,XJ,fM]
   ·simp only[Nat.reduceLT,xq_,uh,aC (aV p),pa,ck,p2,l10,hds,Bool.not_false,ez,z1,z2,XJ,fM]
 ·have hcond:p.ok=Z0/\p.dst=me/\p.src<c.aF/\(p.aW=1∨p.aW=2):=by
   simp only[Bool.or_eq_true,Bool.not_eq_true',Bool.and_eq_false_iff,zas,Bool.and_eq_true,zab,not_or,not_and,Classical.not_not]at h1;have⟨⟨⟨a1,a2⟩,a3⟩,a4⟩:=h1;refine⟨by simpa using a1,a2,a3,?_⟩;by_cases hk:p.aW=1
   ·exact .inl hk
   ·exact .inr (a4 hk)
  have⟨hok,hds,hsr,hkind⟩:=hcond;rw[hok]at ck;have hk12:(p.aW=1/\True)∨(¬p.aW=1/\p.aW=2):=by
   rcases hkind with hk|hk
   ·exact .inl ⟨hk,zac⟩
   ·exact .inr ⟨by omega,hk⟩
  by_cases h2:c.bf p.ak≠me∨c.aT<=p.ak
  ·have hp:h.handle c me p=(h,.zero,ZV,3):=by simp only[Home.handle];rw[F h1,YY h2]
   refine⟨Hz,?_,bad 3 hp Hz W⟩;rw[hp];rcases hk12 with⟨hk,_⟩|⟨hk0,hk⟩
   ·by_cases hh:c.bf p.ak=me
    ·have hl2:c.aT<=p.ak:=h2.resolve_left (λh=>h hh);simp only[Nat.reduceLT,Nat.reduceAdd,xq_,uh,aC (aV p),pa,ck,p2,l10,hds,p1,l2,hsr,Bool.not_true,p0,hk,la,p4,ho,hh,l3,hl2,ez,z1,z2,XJ,fM]
    ·simp only[Nat.reduceLT,xq_,uh,aC (aV p),pa,ck,p2,l10,hds,p1,l2,hsr,Bool.not_true,Bool.not_false,p0,hk,la,p4,ho,hh,ez,z1,z2,XJ,fM]
   ·by_cases hh:c.bf p.ak=me
    ·have hl2:c.aT<=p.ak:=h2.resolve_left (λh=>h hh);simp only[Nat.reduceLT,Int.reduceEq,Nat.reduceAdd,xq_,uh,aC (aV p),pa,ck,p2,l10,hds,p1,l2,hsr,Bool.not_true,Bool.not_false,p0,hk,la,p4,ho,hh,l3,hl2,ez,z1,z2,XJ,fM]
    ·simp only[Nat.reduceLT,Int.reduceEq,xq_,uh,aC (aV p),pa,ck,p2,l10,hds,p1,l2,hsr,Bool.not_true,Bool.not_false,p0,hk,la,p4,ho,hh,ez,z1,z2,XJ,fM]
  ·have hh:c.bf p.ak=me:=zar λh=>h2 (.inl h);have hl2:¬c.aT<=p.ak:=λh=>h2 (.inr h);rcases hk12 with⟨hk,_⟩|⟨hk0,hk⟩
   ·have⟨K1,a1,a2,a3⟩:=afG G2' (by simp only[H2,H1,iO];exact hb) N2.2.2 hw p.ak p.src p.id (hwl p.ak);have NK:=N2.als { h with bn:=(h.bn.ask p.ak p.src p.id).1 };rw[zS N2]at NK;have hqt:tt≠H.next:=G.ne N.2.2
    have aq4:tt≠H.next+1:=by have:=G.lt N.2.2;omega
    have k1:upd g2 tt (iU (h.bn.ask p.ak p.src p.id).1) H.next=ZC (p.av.map Cell.av):=by rw[bF hqt.symm];exact hp1
    have k2:upd g2 tt (iU (h.bn.ask p.ak p.src p.id).1) (H.next+1)=ZC (zP9.map Cell.av):=by rw[bF aq4.symm];exact hp2
    have hbK:K1.base<=b:=by rw[a3.base];simp only[H2,H1,iO];exact hb
    have fin:∀{K2:ah} {y:Q Cell},Good b K2 (upd (upd g2 tt (iU (h.bn.ask p.ak p.src p.id).1)) (H.next+1) y)->Good b K2 (lI g d tt c { h with bn:=(h.bn.ask p.ak p.src p.id).1 }):=λGk=>Gk.sub (by
     rw[zS N];refine((S2.both tt _).more (Ap (G.isNone (Nat.le_succ _)) aq4.symm) _))
    have kk:¬((1:Int)=2):=by decide
    simp only[H2,H1]at a1;cases ha:(h.bn.ask p.ak p.src p.id).2 with
    |false=>
     have hp:h.handle c me p=({ h with bn:=(h.bn.ask p.ak p.src p.id).1 },.zero,ZV,0):=by
      simp only[Home.handle];rw[F h1,F h2,YY hk];rw[F (by rw[ha];decide)]
     rw[hp];rw[ha]at a1;have⟨K2,y1,y2,y3,y4⟩:=zst a2 hbK k2 (y:=zP9) W W;refine⟨K2,?_,fin y3,(st2.trans a3).trans y4⟩;simp only[Nat.reduceLT,Nat.reduceAdd,xq_,uh,aC (aV p),pa,ck,p2,l10,hds,p1,l2,hsr,Bool.not_true,Bool.not_false,p0,hk,la,p4,ho,hh,l3,hl2,lt,p3,a1,ez,y1,y2,XJ,fM]
    |true=>
     have hp:h.handle c me p=({ h with bn:=(h.bn.ask p.ak p.src p.id).1 },granted h.dS me p.ak p.src p.id,Z0,0):=by
      simp only[Home.handle];rw[F h1,F h2,YY hk];rw[YY ha]
     rw[hp];rw[ha]at a1;have q1:=a2.load k1 (i:=1) (x:=I p.src) W;have q3:=a2.load k1 (i:=3) (x:=I p.id) W;have q4:=a2.load k1 (i:=4) (x:=I p.ak) W;have gr:=LM a2 NK hr p.ak p.src p.id;have⟨K2,y1,y2,y3,y4⟩:=zst a2 hbK k2 (y:=(granted h.dS me p.ak p.src p.id).av) (cO _) (aV _);refine⟨K2,?_,fin y3,(st2.trans a3).trans y4⟩;simp only[Nat.reduceLT,Nat.reduceAdd,xq_,uh,aC (aV p),pa,ck,p2,l10,hds,p1,l2,hsr,Bool.not_true,p0,hk,la,p4,ho,hh,l3,hl2,lt,p3,a1,q1,q3,q4,gr,y1,y2,XJ]
   ·have⟨K1,a1,a2,a3⟩:=acU G2' (by simp only[H2,H1,iO];exact hb) N2 p hl;have hqt:tt≠H.next:=G.ne N.2.2
    have aq4:tt≠H.next+1:=by have:=G.lt N.2.2;omega
    have hqd:d≠H.next:=G.ne N.2.1
    have au1:d≠H.next+1:=by have:=G.lt N.2.1;omega
    have k1:lI g2 d tt c (h.unlock c p).1 H.next=ZC (p.av.map Cell.av):=by unfold lI;rw[bF hqt.symm,bF hqd.symm];exact hp1
    have k2:lI g2 d tt c (h.unlock c p).1 (H.next+1)=ZC (zP9.map Cell.av):=by unfold lI;rw[bF aq4.symm,bF au1.symm];exact hp2
    have NK:=N2.als (h.unlock c p).1;have hbK:K1.base<=b:=by rw[a3.base];simp only[H2,H1,iO];exact hb
    have fin:∀{K2:ah} {y:Q Cell},Good b K2 (upd (lI g2 d tt c (h.unlock c p).1) (H.next+1) y)->Good b K2 (lI g d tt c (h.unlock c p).1):=λGk=>Gk.sub (by
     refine((RH S2 _).more ?_ _);unfold lI;rw[bF aq4.symm,bF au1.symm];exact G.isNone (Nat.le_succ _))
    have kk:¬((2:Int)=1):=by decide
    simp only[H2,H1]at a1;by_cases hz:(h.unlock c p).2=0
    ·have hp:h.handle c me p=((h.unlock c p).1,⟨8,me,p.src,p.id,p.ak,0,0,ZV,[]⟩,Z0,0):=by
      simp only[Home.handle];rw[F h1,F h2,F hk0,YY hz]
     rw[hp];rw[hz]at a1;have q1:=a2.load k1 (i:=1) (x:=I p.src) W;have q3:=a2.load k1 (i:=3) (x:=I p.id) W;have q4:=a2.load k1 (i:=4) (x:=I p.ak) W;have q10:=a2.load NK.1 (i:=10) (x:=I me) W;have hd0:dat ([]:Q Int)=zN:=by simp[dat,gu]
     have⟨K2,y1,y2,y3,y4⟩:=zst a2 hbK k2 (y:=(Pkt.mk 8 me p.src p.id p.ak 0 0 ZV []).av) (cO _) (aV _);refine⟨K2,?_,fin y3,(st2.trans a3).trans y4⟩;have eb:bd 81 [(0,I 8),(1,I me),(2,I p.src),(3,I p.id),(4,I p.ak)]=ZC (.agg (Pkt.mk 8 me p.src p.id p.ak 0 0 ZV []).av):=by
      simp only[xq_,zC,jf,fO,Uj,Pkt.av,hd0];rfl
     simp only[Nat.reduceLT,Nat.reduceAdd,xq_,uh,aC (aV p),pa,ck,p2,l10,hds,p1,l2,hsr,Bool.not_true,Bool.not_false,p0,hk,kk,la,p4,ho,hh,l3,hl2,a1,q10,q1,q3,q4,eb,y1,y2,XJ]
    ·have hp:h.handle c me p=((h.unlock c p).1,.zero,ZV,(h.unlock c p).2):=by
      simp only[Home.handle];rw[F h1,F h2,F hk0,F hz]
     rw[hp];have⟨K2,y1,y2,y3,y4⟩:=zst a2 hbK k2 (y:=zP9) W W;refine⟨K2,?_,fin y3,(st2.trans a3).trans y4⟩;simp only[Nat.reduceLT,Nat.reduceAdd,xq_,uh,aC (aV p),pa,ck,p2,l10,hds,p1,l2,hsr,Bool.not_true,Bool.not_false,p0,hk,kk,la,p4,ho,hh,l3,hl2,a1,hz,ez,y1,y2,XJ,fM]
end
def acW(l:Q Int):(l.mergeSort λx y=>u (x<=y))=srt [] l:=by
 have tr:∀a b c:Int,u (a<=b)=Z0->u (b<=c)=Z0->u (a<=c)=true:=λa b c d e=>by simp only[zab]at*;omega
 have to:∀a b:Int,(u (a<=b) || u (b<=a))=true:=λa b=>by simp only[Bool.or_eq_true,zab];omega
 exact(ahF (List.mergeSort_perm l _).symm ((List.pairwise_mergeSort tr to l).imp λh=>zaB h)).symm
def XK(l:Q Int):QC l=dat (srt [] l):=by
 unfold QC;split
 ·rename_i h;subst h;simp[dat,gu,srt,aeU]
 ·rename_i h;have g:=(xY l [] List.Pairwise.nil).1;have b:(srt [] l).length=l.length:=g.length_eq;have d:srt [] l≠[]:=λe=>h (by rw[e]at b;exact List.eq_nil_of_length_eq_zero b.symm);rw[qN d,acW,b]
section
variable {b:Nat}{H:ah}{g:bG}{q d tt:Nat}{c:Cfg}{me:Int}{h:Home}
structure TOk(t:Turns):Prop where
 nd:(t.wait.map (·.1)).Nodup
 key:∀e∈t.wait,0<=e.1/\e.1<1000
 len:t.wait.length<1000
 ws:∀ak,(t.ws ak).length<1000000
def LP(G:Good b H g){t:Turns}(h:g q=some (iU t))(T:TOk t):cl 193 [.ref q 0 0] H=some (dat (t.ready (srt [] (t.wait.map (·.1)))),H):=by
 obtain⟨r,aes,f1,f2,f3,f4⟩:=G.guard.alh h (i:=1) rfl;have f4:aes.map (·.1)=t.wait.map (·.1):=by rw[f4];simp
 let H1:=H.guard.new (.blk 0 216 [.mp r]);have k1:cl 224 [.mp r] H.guard=some (.fn (.func 239) [] [.ref H.next 0 0],H1):=by
  refine bg rfl rfl (aqg _ _ _ ?_);have eb:fK 216 (.mp r) H.guard=some (.ref H.next 0 0,H1):=rfl;simp only[xq_,ajc,eb]
 have k2:cl 45 [.fn (.func 239) [] [.ref H.next 0 0]] H1=some (dat (srt [] (t.wait.map (·.1))),H1):=by
  refine zq (p:=sW yU rW) rfl ?_;have g1:H1.get H.next=.blk 0 216 [.mp r]:=aK rfl
  have g2:H1.get r=.map .i64 aes:=by rw[<-f3];exact aZ f2
  have hc:(True/\216<gW/\239≠0/\239∈yU/\(aes.map (·.1)).Nodup/\(aes.all λe=>(Lit.int .i64 e.1).wf)=true/\aes.length<=1000000):=by
   refine⟨trivial,by unfold gW;decide,by decide,by simp[yU],by rw[f4];exact T.nd,?_,?_⟩
   ·rw[List.all_eq_true];intro e he;have:e.1∈t.wait.map (·.1):=by rw[<-f4];exact List.mem_map.2 ⟨e,he,rfl⟩
    obtain⟨x,hx,hxe⟩:=List.mem_map.1 this;have:=T.key x hx;have m1:IntKind.min .i64=-9223372036854775808:=rfl;have m2:IntKind.max .i64=9223372036854775807:=rfl;simp only[Lit.wf,m1,m2,Bool.and_eq_true,decide_eq_true_eq];rw[<-hxe];omega
   ·have:=congrArg List.length f4;simp only[List.length_map]at this;have:=T.len;omega
  simp only[sW,g1,g2];rw[if_pos hc,f4,XK]
 have hsp:=xY (t.wait.map (·.1)) [] List.Pairwise.nil;obtain⟨K,hK0⟩:∃K,K=srt [] (t.wait.map (·.1)):=⟨_,rfl⟩
 rw[<-hK0]at k2 hsp ⊢;have hK:K.length<1000:=by have:=hsp.1.length_eq;simp only[List.nil_append,List.length_map]at this;have:=T.len;omega
 have hs:∀H',aH H' (dat K) 1 K.length (K.map I):=λH'=>gJ H' K;let p:Int->Bool:=λak=>!t.owned ak && !(t.ws ak).isEmpty
 let F:Nat->List Int:=λj=>(K.take j).filter p
 have key:∀k j,j+k=K.length->∀(Hi:ah) (o:AV),Own H.next Hi o 1 ((F j).map I)->(F j=[]->o=zN)->Step H.next H.guard Hi->
   ∃y Hz,FQ cl [.ref q 0 0,o,dat K,I K.length,I j] Hi=some (y,Hz)/\Own H.next Hz y 1 ((t.ready K).map I)/\(t.ready K=[]->y=zN):=by
  intro k
  induction k with
  |zero=>
   intro j hj Hi o O z s;have h1:¬(j:Int)<K.length:=by omega
   have:F j=t.ready K:=by
    simp only[F,Turns.ready,p];rw[List.take_of_length_le (by omega)]
   rw[this]at O z;refine⟨o,Hi,?_,O,z⟩;rw[Xe];simp only[xq_,h1]
  |succ k ih=>
   intro j hj Hi o O z s;have h1:(j:Int)<K.length:=by omega
   have h6:(j:Int)+1=((j+1:Nat):Int):=by omega
   have h7:=wrap_i64 (a:=((j+1:Nat):Int)) (by omega) (by omega);have sb:Hi.base=H.next:=s.base
   have sn:H.next<=Hi.next:=s.next
   obtain⟨e,he⟩:∃e,K[j]?=some e:=⟨_,List.getElem?_eq_getElem (by omega)⟩
   have s1:=(hs Hi).ix (k:=.i64) (i:=(j:Int)) (by omega) h1;rw[Int.toNat_natCast]at s1;have s2:=(hs Hi).ld (i:=j) (by omega);rw[List.getElem?_map,he]at s2;simp only[Option.map_some]at s2;have Gi:Good b Hi g:=G.guard.ext s.next s.low
   have o1:=yu Gi h e;have w1:=xF Gi h e;have hFs:F (j+1)=F j++if p e=true then [e]else []:=by
    simp only[F,List.take_add_one,he,Option.toList_some,List.filter_append]
    congr 1
    cases hp:p e <;> simp[hp]
   have hm:(F j).length<=j:=Nat.le_trans (List.length_filter_le _ _) (by rw[List.length_take];omega);rw[Xe];cases hp:p e with
   |true=>
    rw[hp,if_pos rfl]at hFs;have ho:t.owned e=false:=by simp only[p,Bool.and_eq_true,Bool.not_eq_true']at hp;exact hp.1
    have hw:(0:Int)<(t.ws e).length:=by
     simp only[p,Bool.and_eq_true,Bool.not_eq_true']at hp;cases hz:t.ws e with
     |nil=>rw[hz]at hp;simp at hp
     |cons a l=>simp only[List.length_cons];omega
    obtain⟨o',H2,t1,t2,t3⟩:=(O.new (.blk 0 3 [I e])).step (n:=(F j).length) (k:=1) (e:=3) (by_:=8) (y:=.sl Hi.next 0 0 1 1 1 true) (new:=[I e]) (by simp only[eu];omega) (by simp only[iO];omega) (by decide) (by simp) (jZ rfl) rfl (by unfold most;omega) (by unfold most;omega);obtain⟨y,Hz,r1,r2⟩:=ih (j+1) (by omega) H2 o' (by rw[hFs,List.map_append];exact t2) (λhz=>by rw[hFs]at hz;simp at hz) ((s.trans (Step.new _ sn)).trans t3);refine⟨y,Hz,?_,r2⟩;rw[ho]at o1;have eb:∀H,bs 22 1 [(0,I e)] H=some (.sl H.next 0 0 1 1 1 true,H.new (.blk 0 3 [I e])):=λH=>(ND (by decide)).trans (jE rfl rfl rfl);simp only[xq_,h1,s1,s2,o1,w1,hw,Bool.not_false,eb,t1,Bh,bM,h6,h7];exact r1
   |false=>
    rw[hp,if_neg (by simp),List.append_nil]at hFs;obtain⟨y,Hz,r1,r2⟩:=ih (j+1) (by omega) Hi o (by rw[hFs];exact O) (by rw[hFs];exact z) s;refine⟨y,Hz,?_,r2⟩;cases ho:t.owned e with
    |true=>
     rw[ho]at o1;simp only[xq_,h1,s1,s2,o1,Bool.not_true,Bh,bM,h6,h7];exact r1
    |false=>
     rw[ho]at o1;have hw:¬(0:Int)<(t.ws e).length:=by
      simp only[p,ho,Bool.not_false,Bool.true_and,Bool.not_eq_false']at hp;rw[List.isEmpty_iff]at hp;rw[hp];decide
     simp only[xq_,h1,s1,s2,o1,w1,hw,Bool.not_false,Bh,bM,h6,h7];exact r1
 obtain⟨y,Hz,r1,r2,r3⟩:=key K.length 0 (by omega) H1 zN (.inl ⟨rfl,rfl⟩) (λ_=>rfl) (Step.new _ (Nat.le_refl _));refine gY rfl rfl (apN _ _ _ (r:=(y,Hz)) ?_) ?_
 ·have e2:=(hs H1).lnS;simp only[H1]at k1 k2 e2 r1;simp only[xq_,aiV,f1,k1,k2,e2];exact r1
 ·by_cases hz:t.ready K=[]
  ·rw[r3 hz,hz];simp only[dat,gu];exact iF
  ·rw[qN hz];exact uj r2 (by decide) (by simp) (λy hy=>rZ (d:=7) _ y hy _ _) (λe=>hz (List.eq_nil_of_length_eq_zero e))
end
def Off(S:Nat->Prop)(g g':bG):Prop:=∀q,¬S q->g' q=g q
def Off.refl(S:Nat->Prop)(g:bG):Off S g g:=λ_ _=>rfl
def Off.trans {S:Nat->Prop}{g g' b:bG}(h:Off S g g')(e:Off S g' b):Off S g b:=λq d=>(e q d).trans (h q d)
def Off.upd {S:Nat->Prop}{g:bG}{q:Nat}{cs:Q Cell}(h:S q):Off S g (upd g q cs):=λx b=>by
 rw[bF];intro e;subst e;exact b h
def Off.mono {S T:Nat->Prop}{g g':bG}(h:Off S g g')(b:∀q,S q->T q):Off T g g':=λq d=>h q λe=>d (b q e)
def Pz(P:Nat->Nat->Nat)(n:Nat)(q:Nat):Prop:=∃i s,i<n/\s<4/\q=P i s
def Tt(p:Port):Nat->Q Pkt
 |0=>p.rq
 |1=>p.rin
 |2=>p.an
 |_=>p.ain
def PD(c:Cfg):Nat->Int
 |0=>c.out
 |1=>c.inn
 |2=>c.out
 |_=>1
def oIx(req:Bool):Nat:=if req then 0 else 2
def iIx(req:Bool):Nat:=if req then 1 else 3
def gZ {g:bG}{a:Nat->Nat}{c:Cfg}{p:Port}(h:wo g a c p):∀{s:Nat},s<4->g (a s)=ZC (nP (Tt p s) (PD c s)):=λ{s} b=>by
 have⟨d,e,i,j⟩:=h
 match s,b with
 |0,_=>exact d
 |1,_=>exact e
 |2,_=>exact i
 |3,_=>exact j
def BD {g:bG}{a:Nat->Nat}{c:Cfg}{p:Port}(h:∀s,s<4->g (a s)=ZC (nP (Tt p s) (PD c s))):wo g a c p:=
 ⟨h 0 J,h 1 J,h 2 J,h 3 J⟩
def BF(p:Port)(req:Bool):Tt p (oIx req)=p.sort req:=by cases req <;> rfl
def Jk(p:Port)(req:Bool):Tt p (iIx req)=p.uG req:=by cases req <;> rfl
def sG(c:Cfg)(req:Bool):PD c (oIx req)=c.out:=by cases req <;> rfl
def uy(req:Bool):oIx req<4:=by cases req <;> decide
def sH(req:Bool):iIx req<4:=by cases req <;> decide
def zT(p:Port)(req:Bool)(l:Q Pkt)(s:Nat)(b:s<4):Tt (p.lS req l) s=if s=oIx req then l else Tt p s:=by
 match s,b with
 |0,_=>cases req <;> rfl
 |1,_=>cases req <;> rfl
 |2,_=>cases req <;> rfl
 |3,_=>cases req <;> rfl
def Dx(p:Port)(req:Bool)(l:Q Pkt)(s:Nat)(b:s<4):Tt (p.lG req l) s=if s=iIx req then l else Tt p s:=by
 match s,b with
 |0,_=>cases req <;> rfl
 |1,_=>cases req <;> rfl
 |2,_=>cases req <;> rfl
 |3,_=>cases req <;> rfl
section
variable {b:Nat}{H:ah}{g:bG}{f:Nat}{P:Nat->Nat->Nat}{c:Cfg}{fab:Fab}
def iG.sub {g':bG}(F:iG g f P c fab)(e:uF g g'):iG g' f P c fab:=
 ⟨e _ _ F.1,λi p h=>by have⟨a,b,c,d⟩:=F.2.1 i p h;exact⟨e _ _ a,e _ _ b,e _ _ c,e _ _ d⟩,F.2.2⟩
def iG.fne(F:iG g f P c fab){i s:Nat}(hi:i<fab.l.length)(d:s<4):f≠P i s:=λe=>by
 have h:=F.1;have b:=gZ (F.port hi) d;rw[<-e,h]at b;have:=zaj List.length (Option.some.inj b);simp[afu,nP]at this
def iG.fill(F:iG g f P c fab)(J:U1 P fab.l.length){i s:Nat}(hi:i<fab.l.length)(n:s<4){p':Port}{l:Q Pkt}(q:∀t,t<4->Tt p' t=if t=s then l else Tt (fab.port i) t):
  iG (upd g (P i s) (nP l (PD c s))) f P c (fab.put i p'):=by
 have m:(fab.put i p').l.length=fab.l.length:=by simp[Fab.put]
 refine⟨by rw[m,bF (F.fne hi n)];exact F.1,λj p h=>?_,F.2.2⟩;simp only[Fab.put,Int.toNat_natCast]at h;have o:j<fab.l.length:=by have:=(List.getElem?_eq_some_iff.1 h).1;simpa using this
 by_cases b:i=j
 ·subst b;rw[List.getElem?_set_self hi]at h;cases h;refine BD λt k=>?_;rw[q t k];by_cases d:t=s
  ·subst d;rw[y W,aQ]
  ·rw[Ys d,bF (λe=>d (J _ _ _ _ hi hi k n e).2)];exact gZ (F.port hi) k
 ·rw[List.getElem?_set_ne b]at h;refine BD λt k=>?_;rw[bF (λe=>b (J _ _ _ _ o hi k n e).1.symm)];have:=gZ (F.2.1 j p h) k;exact this
def BG {i:Int}(hi:fab.is i=Z0):∃n:Nat,i=n/\n<fab.l.length:=by
 simp only[Fab.is,Bool.and_eq_true,zab]at hi;exact⟨i.toNat,V,V⟩
def afQ(a:Nat->Nat)(req:Bool):Q AV:=[.ref (a (oIx req)) 0 0,.ref (a (iIx req)) 0 0]
def Gm(H:ah)(hb:H.base<=H.next)(a:Nat->Nat)(req:Bool):∃H',cl 91 [.agg (oH a),B req] H=ZC (.agg (afQ a req),H')/\Made H H' lH:=by
 refine kN W W (atN _ _ _ _) ?_;have b:(oH a).all AV.aU=true:=rfl;cases req with
 |true=>
  refine⟨(H.new (.blk 0 142 (oH a))).new (.blk 0 121 (afQ a Z0)),?_,((Made.refl hb).new _).new _⟩;simp only[Nat.reduceLT,Nat.reduceAdd,aI,xq_,hq_,akM,oH,afQ,oIx,iIx,aC,hb]
 |false=>
  refine⟨(H.new (.blk 0 142 (oH a))).new (.blk 0 121 (afQ a ZV)),?_,((Made.refl hb).new _).new _⟩;simp only[Nat.reduceLT,Nat.reduceAdd,aI,xq_,hq_,akM,oH,afQ,oIx,iIx,aC,hb]
def BH(G:Good b H g)(F:iG g f P c fab){i:Nat}(hi:i<fab.l.length):∃x r gg o,ld (.ref f 0 0) H=ZC (x,H)/\ix 4 x (I i) H=ZC (.ref r gg o,H)/\lda 4 (.ref r gg o) H=ZC (.agg (oH (P i)),H):=by
 have⟨x,e,h⟩:=G.seq F.1 (i:=0) W;have⟨r,gg,o,j,_,d⟩:=h.elemAt J (pY P _) hi;have k:(List.range fab.l.length)[i]?=ZC i:=List.getElem?_range hi;have:=vg (enc:=λi=>oH (P i)) (m:=4) (λ_=>rfl) (List.range fab.l.length) i i k;rw[this]at d;exact⟨x,r,gg,o,e,j .i64,d⟩
structure FOk(c:Cfg)(fab:Fab):Prop where
 ok:c.ok=true
 len:fab.l.length<1000
 box:∀p∈fab.l,∀s,s<4->((Tt p s).length:Int)<=PD c s
 dat:∀p∈fab.l,∀s,s<4->∀q∈Tt p s,q.data.length<1000000000
def LQ {c:Cfg}(h:c.ok=Z0)(s:Nat):0<=PD c s/\PD c s<1000:=by
 have B:=qp h;have:=B.out;have:=B.inn;unfold PD;split <;> omega
def FOk.small {c:Cfg}{fab:Fab}(K:FOk c fab){p:Port}(b:p∈fab.l){s:Nat}(d:s<4):(Tt p s).length<1000:=by
 have:=K.box p b s d;have:=(LQ K.ok s).2;omega
def Fab.vJ {fab:Fab}{i:Nat}(hi:i<fab.l.length):fab.port i∈fab.l:=by
 unfold Fab.port;rw[Int.toNat_natCast,List.getD_eq_getElem?_getD,List.getElem?_eq_getElem hi];exact List.getElem_mem hi
def alu(G:Good b H g)(hb:H.base<=b)(F:iG g f P c fab)(K:FOk c fab)(i:Int)(req:Bool):∃H',cl 141 [.ref f 0 0,I i,B req] H=ZC (I (fab.roomOf i req),H')/\Good b H' g/\Step b H H':=by
 refine kN W W (ao4 _ _ _ _ _) ?_;have e:=F9 G F K.len i;cases hi:fab.is i with
 |false=>
  rw[hi]at e;refine⟨H,?_,G,Step.refl _ _⟩;have:fab.roomOf i req=0:=by simp[Fab.roomOf,hi]
  simp only[xq_,abx,e,Bool.not_false,this]
 |true=>
  rw[hi]at e;obtain⟨n,rfl,h⟩:=BG hi;have⟨x,r,gg,o,q,u,v⟩:=BH G F h;have⟨H1,w,d⟩:=Gm H (Nat.le_trans hb G.1) (P n) req;have m:Good b H1 g:=G.ext d.next d.same
  have j:=gZ (F.port h) (uy req);have p:=Xm m j (LQ K.ok _).1 (LQ K.ok _).2 (K.small (Fab.vJ h) (uy req));rw[BF,sG,<-F.2.2.1]at p;refine⟨H1,?_,m,⟨d.base,d.next,λr y=>d.same r (Nat.lt_of_lt_of_le y G.1)⟩⟩;have k:fab.roomOf n req=fab.out-((fab.port n).sort req).length:=by unfold Fab.roomOf;rw[YY hi]
  have z:(afQ (P n) req)[0]?=ZC (.ref (P n (oIx req)) 0 0):=rfl;simp only[xq_,abx,e,Bool.not_true,q,u,v,w,z,p,k]
def alv(G:Good b H g)(hb:H.base<=b)(F:iG g f P c fab)(J:U1 P fab.l.length)(K:FOk c fab)(p:Pkt)(hl:p.data.length<1000000000):
  ∃H' g',cl 143 [.ref f 0 0,.agg p.av] H=ZC (I (fab.send p).2,H')/\Good b H' g'/\iG g' f P c (fab.send p).1/\Off (Pz P fab.l.length) g g'/\Step b H H':=by
 have hb0:H.base<=H.next:=Nat.le_trans hb G.1
 let H1:=H.new (.blk 0 81 p.av);have G1:Good b H1 g:=G.new _;have ck:=BA H1 p;have e1:=F9 G1 F K.len p.src;have e2:=F9 G1 F K.len p.dst;by_cases hbad:(!p.ok || !fab.is p.src || !fab.is p.dst)=Z0
 ·have hp:fab.send p=(fab,1):=by simp only[Fab.send];rw[y hbad]
  rw[hp];refine⟨H1,g,bg W W (ail _ _ _ _ ?_),G1,F,Off.refl _ _,Step.new _ G.1⟩;simp only[H1]at ck e1 e2 ⊢;have f1:p.av[1]?=ZC (I p.src):=rfl;have f2:p.av[2]?=ZC (I p.dst):=rfl;cases hok:p.ok with
  |false=>
   rw[hok]at ck;simp only[Nat.reduceLT,Int.reduceEq,xq_,hq_,QU,aC (aV p),ck,Bool.not_false]
  |true=>
   rw[hok]at ck hbad;cases hs:fab.is p.src with
   |false=>
    rw[hs]at e1;simp only[Nat.reduceLT,xq_,hq_,QU,aC (aV p),ck,Bool.not_true,f1,e1,Bool.not_false]
   |true=>
    rw[hs]at e1 hbad;have hd:fab.is p.dst=false:=by simpa using hbad
    rw[hd]at e2;simp only[Nat.reduceLT,xq_,hq_,QU,aC (aV p),ck,Bool.not_true,f1,f2,e1,e2,Bool.not_false]
 ·have hcond:p.ok=Z0/\fab.is p.src=Z0/\fab.is p.dst=true:=by
   cases h1:p.ok <;> cases h2:fab.is p.src <;> cases h3:fab.is p.dst <;> simp_all
  have⟨hok,hs,hd⟩:=hcond;rw[hok]at ck;rw[hs]at e1;rw[hd]at e2;have⟨n,hsn,hn⟩:=BG hs;have⟨x,r,gg,o,h1,h2,h3⟩:=BH G1 F hn;let req:=wB p.aW;have rq:=LH H1.guard p.aW;have⟨K1',s1,s2⟩:=Gm H1.guard (Nat.le_refl _) (P n) req;have⟨K1,s1,s2⟩:=drawn s1 s2;have G2:Good b K1 g:=G1.ext s2.next s2.same
  have hbx:=gZ (F.port hn) (uy req);have hbK:K1.base<=b:=by rw[s2.base];exact hb
  have⟨H',q1,q2,q3⟩:=akR G2 hbK hbx (LQ K.ok _).1 (LQ K.ok _).2 (K.small (Fab.vJ hn) (uy req)) p hl;have g1:K1.get H.next=.blk 0 81 p.av:=by rw[s2.same _ (by simp only[H1,eu];omega)];exact aK W
  have l9:lda 9 (.ref H.next 0 0) K1=ZC (.agg p.av,K1):=by
   rw[iE (off:=0) (n:=9) g1 (by rw[cO];exact Nat.le_refl _),List.drop_zero,Qw]
  rw[BF,sG]at q1;have hout:fab.out=c.out:=F.2.2.1;have hle:=K.box _ (Fab.vJ hn) _ (uy req);rw[BF,sG]at hle;have f0:p.av[0]?=ZC (I p.aW):=rfl;have f1:p.av[1]?=ZC (I p.src):=rfl;have f2:p.av[2]?=ZC (I p.dst):=rfl;have l0:(afQ (P n) req)[0]?=ZC (.ref (P n (oIx req)) 0 0):=rfl;have run:∀v,cl 197 [.ref (P n (oIx req)) 0 0,.agg p.av] K1=ZC (v,H')->cl 143 [.ref f 0 0,.agg p.av] H=ZC (v,H'):=λv q1=>by
   refine bg W W (ail _ _ _ _ ?_);rw[hsn]at f1 e1;simp only[H1,req]at ck e1 e2 rq h1 h2 h3 s1 l0 q1;simp only[Nat.reduceLT,xq_,hq_,QU,aC (aV p),ck,Bool.not_true,f0,f1,f2,e1,e2,h1,h2,h3,rq,s1,l0,l9,q1]
  have st0:Step b H K1:=(Step.new _ G.1).trans ⟨s2.base,s2.next,λr hr=>s2.same r (Nat.lt_of_lt_of_le hr G1.1)⟩;have hset:Off (Pz P fab.l.length) g (upd g (P n (oIx req)) (nP (if PD c (oIx req)=((Tt (fab.port n) (oIx req)).length:Int)then Tt (fab.port n) (oIx req)else Tt (fab.port n) (oIx req)++[p]) (PD c (oIx req)))):=Off.upd ⟨n,oIx req,hn,uy req,W⟩;rw[BF,sG]at q2 hset;by_cases hfull:c.out=(((fab.port n).sort req).length:Int)
  ·have hp:fab.send p=(fab,5):=by
    simp only[Fab.send];rw[Ys hbad,hsn,hout,y (Int.le_of_eq hfull)]
   rw[y hfull]at q1 q2 hset;rw[fP (by rw[gZ (F.port hn) (uy req),BF,sG])]at q2;rw[hp];exact⟨H',g,run _ q1,q2,F,Off.refl _ _,st0.trans q3⟩
  ·have hp:fab.send p=(fab.put n ((fab.port n).lS req ((fab.port n).sort req++[p])),0):=by
    simp only[Fab.send];rw[Ys hbad,hsn,hout,Ys (λh=>hfull (Int.le_antisymm h hle))]
   rw[Ys hfull]at q1 q2 hset;rw[hp];refine⟨H',_,run _ q1,q2,?_,hset,st0.trans q3⟩;have:=F.fill J hn (uy req) (p':=(fab.port n).lS req ((fab.port n).sort req++[p])) (l:=(fab.port n).sort req++[p]) (zT _ _ _);rw[sG]at this;exact this
end
section
variable {b:Nat}{H:ah}{g:bG}{f:Nat}{P:Nat->Nat->Nat}{c:Cfg}{fab:Fab}
def iG.avQ(G:Good b H g)(F:iG g f P c fab){q:Nat}(h:Pz P fab.l.length q):q<H.next:=by
 obtain⟨i,s,hi,d,rfl⟩:=h;exact G.lt (gZ (F.port hi) d)
def iG.Vk(G:Good b H g)(F:iG g f P c fab):¬Pz P fab.l.length H.next:=λh=>Nat.lt_irrefl _ (F.avQ G h)
def alx {K:ah}{g:bG}{r:Nat}{ys:Q AV}(k:Good b K g)(hk:K.base<=b)(m:g r=ZC (ys.map Cell.av))(j:ys.length=9){y:Q AV}(d:y.length=9)(ha:y.all AV.aU=Z0):
  ∃K',st 9 (.ref r 0 0) (.agg y) K=ZC (aX,K')/\lda 9 (.ref r 0 0) K'=ZC (.agg y,K')/\Good b K' (upd g r (y.map Cell.av))/\Step b K K':=by
 have⟨K',o,h,p,q⟩:=k.stores hk m (i:=0) (n:=9) (vs:=y) (by simp[j]) d ha;have e:rO (ys.map Cell.av) 0 y=y.map Cell.av:=by
  unfold rO;rw[List.drop_of_length_le (by simp[d,j])];simp
 rw[e]at h;exact⟨K',o,h.loads aQ (i:=0) (n:=9) (xs:=y) (by rw[List.drop_zero,List.take_of_length_le (by simp[d])]) d J,h,p⟩
def acX(G:Good b H g)(hb:H.base<=b)(F:iG g f P c fab)(J:U1 P fab.l.length)(K:FOk c fab)(i:Int)(req:Bool):
  ∃H' g',cl 183 [.ref f 0 0,I i,B req] H=ZC (iJ (fab.take i req).2,H')/\Good b H' g'/\iG g' f P c (fab.take i req).1/\Off (Pz P fab.l.length) g g'/\Step b H H':=by
 have hb0:H.base<=H.next:=Nat.le_trans hb G.1
 have G1:=G.newObj (ty:=81) (xs:=zP9) W;have S1:uF g (upd g H.next (zP9.map Cell.av)):=(uF.refl g).more (G.isNone (Nat.le_refl _)) _;have F1:=F.sub S1;have e1:=F9 G1 F1 K.len i;have ez:bd 81 []=ZC (.agg zP9):=by simp only[xq_,zC,jf,dX]
 cases hi:fab.is i with
 |false=>
  rw[hi]at e1;have hp:fab.take i req=(fab,Z1):=by simp[Fab.take,hi]
  rw[hp];have⟨K',t1,t2,t3,t4⟩:=alx G1 (by rw[iO];exact hb) aQ W (y:=zP9) W W;refine⟨K',g,bg W W (aiR _ _ _ _ _ ?_),t3.sub (by rw[pz];exact S1),F,Off.refl _ _,(Step.new _ G.1).trans t4⟩;simp only[xq_,abI,e1,Bool.not_false,ez,t1,t2,iJ,Option.getD_none,Option.isSome_none,fM]
 |true=>
  rw[hi]at e1;obtain⟨n,rfl,hn⟩:=BG hi;have⟨x,r,gg,o,h1,h2,h3⟩:=BH G1 F1 hn;have⟨K1,s1,s2⟩:=Gm (H.new (.blk 0 81 zP9)) (by rw[iO,eu];omega) (P n) req;have G2:Good b K1 _:=G1.ext s2.next s2.same
  have hbx:=gZ (F1.port hn) (sH req);have hbK:K1.base<=b:=by rw[s2.base,iO];exact hb
  have st1:Step b H K1:=(Step.new _ G.1).trans ⟨s2.base,s2.next,λr hr=>s2.same r (Nat.lt_of_lt_of_le hr G1.1)⟩;have⟨K2,q1,q2,q3⟩:=ab1 G2 hbK hbx (K.small (Fab.vJ hn) (sH req)) (K.dat _ (Fab.vJ hn) _ (sH req));have hpn:P n (iIx req)≠H.next:=λe=>F.Vk G ⟨n,iIx req,hn,sH req,e.symm⟩
  rw[Jk]at q1 q2;have⟨K3,t1,t2,t3,t4⟩:=alx q2 (by rw[q3.base];exact hbK) (r:=H.next) (ys:=zP9) (by rw[bF hpn.symm,aQ]) W (y:=(((fab.port n).uG req).head?.getD .zero).av) (cO _) (aV _);have l1:(afQ (P n) req)[1]?=ZC (.ref (P n (iIx req)) 0 0):=rfl;have run:cl 183 [.ref f 0 0,I n,B req] H=ZC (iJ ((fab.port n).uG req).head?,K3):=by
   refine bg W W (aiR _ _ _ _ _ ?_);simp only[iJ]at q1;simp only[xq_,abI,e1,Bool.not_true,h1,h2,h3,s1,l1,q1,t1,t2,iJ]
  have hsub:uF (upd g (P n (iIx req)) (nP ((fab.port n).uG req).tail (PD c (iIx req)))) (upd (upd (upd g H.next (zP9.map Cell.av)) (P n (iIx req)) (nP ((fab.port n).uG req).tail (PD c (iIx req)))) H.next ((((fab.port n).uG req).head?.getD .zero).av.map Cell.av)):=
   (S1.both _ _).more (Ap (G.isNone (Nat.le_refl _)) hpn.symm) _
  have G3:=t3.sub hsub;cases hz:(fab.port n).uG req with
  |nil=>
   have hp:fab.take n req=(fab,Z1):=by simp[Fab.take,hi,hz]
   rw[hz]at run G3;rw[hp];rw[List.tail_nil,fP (by rw[gZ (F.port hn) (sH req),Jk,hz])]at G3;exact⟨K3,g,run,G3,F,Off.refl _ _,(st1.trans q3).trans t4⟩
  |cons p l=>
   have hp:fab.take n req=(fab.put n ((fab.port n).lG req l),ZC p):=by simp[Fab.take,hi,hz]
   rw[hz]at run G3;rw[hp];refine⟨K3,_,run,G3,?_,Off.upd ⟨n,iIx req,hn,sH req,W⟩,(st1.trans q3).trans t4⟩;exact F.fill J hn (sH req) (p':=(fab.port n).lG req l) (l:=l) (Dx _ _ _)
def Dy(G:Good b H g)(hb:H.base<=b)(F:iG g f P c fab)(J:U1 P fab.l.length)(K:FOk c fab)(i:Int):
  ∃H' g',cl 144 [.ref f 0 0,I i] H=ZC (iJ (fab.take i Z0).2,H')/\Good b H' g'/\iG g' f P c (fab.take i Z0).1/\Off (Pz P fab.l.length) g g'/\Step b H H':=by
 have G1:=G.newObj (ty:=81) (xs:=zP9) W;have S1:uF g (upd g H.next (zP9.map Cell.av)):=(uF.refl g).more (G.isNone (Nat.le_refl _)) _;have F1:=F.sub S1;have⟨K1,g',q1,q2,q3,q4,q5⟩:=acX G1 (by rw[iO];exact hb) F1 J K i Z0;have hg':g' H.next=ZC (zP9.map Cell.av):=by rw[q4 _ (F.Vk G),aQ]
 have⟨K2,t1,t2,t3,t4⟩:=alx q2 (by rw[q5.base,iO];exact hb) hg' W (y:=((fab.take i Z0).2.getD .zero).av) (cO _) (aV _);let g2:bG:=λq=>if q=H.next then Z1 else g' q
 have hn:g H.next=none:=G.isNone (Nat.le_refl _)
 have F2:iG g2 f P c (fab.take i Z0).1:=by
  have ne:∀q cs,g' q=ZC cs->q≠H.next->g2 q=ZC cs:=λq cs h1 h2=>by simp only[g2];rw[Ys h2];exact h1
  have hlen:(fab.take i Z0).1.l.length=fab.l.length:=by
   unfold Fab.take;split
   ·split
    ·rfl
    ·simp[Fab.put]
   ·rfl
  have fn:f≠H.next:=G.ne F.1
  refine⟨ne _ _ q3.1 fn,λj p hj=>BD λs hs=>ne _ _ (gZ (q3.2.1 j p hj) hs) λe=>?_,q3.2.2⟩;have hjl:j<fab.l.length:=by rw[<-hlen];exact(List.getElem?_eq_some_iff.1 hj).1
  exact F.Vk G ⟨j,s,hjl,hs,e.symm⟩
 refine⟨K2,g2,bg W W (ao7 _ _ _ _ ?_),t3.sub λq cs h=>?_,F2,λq hq=>?_,((Step.new _ G.1).trans q5).trans t4⟩
 ·simp only[iJ]at q1;simp only[xq_,aio,q1,t1,t2,iJ]
 ·simp only[g2]at h;split at h
  ·cases h
  ·rename_i hne;rw[bF hne];exact h
 ·simp only[g2];split
  ·rename_i e;rw[e,hn]
  ·rename_i hne;rw[q4 q hq,bF hne]
def OW(G:Good b H g)(hb:H.base<=b)(F:iG g f P c fab)(J:U1 P fab.l.length)(K:FOk c fab)(i:Int):
  ∃H' g',cl 134 [.ref f 0 0,I i] H=ZC (iJ (fab.take i ZV).2,H')/\Good b H' g'/\iG g' f P c (fab.take i ZV).1/\Off (Pz P fab.l.length) g g'/\Step b H H':=by
 have G1:=G.newObj (ty:=81) (xs:=zP9) W;have S1:uF g (upd g H.next (zP9.map Cell.av)):=(uF.refl g).more (G.isNone (Nat.le_refl _)) _;have F1:=F.sub S1;have⟨K1,g',q1,q2,q3,q4,q5⟩:=acX G1 (by rw[iO];exact hb) F1 J K i ZV;have hg':g' H.next=ZC (zP9.map Cell.av):=by rw[q4 _ (F.Vk G),aQ]
 have⟨K2,t1,t2,t3,t4⟩:=alx q2 (by rw[q5.base,iO];exact hb) hg' W (y:=((fab.take i ZV).2.getD .zero).av) (cO _) (aV _);let g2:bG:=λq=>if q=H.next then Z1 else g' q
 have hn:g H.next=none:=G.isNone (Nat.le_refl _)
 have F2:iG g2 f P c (fab.take i ZV).1:=by
  have ne:∀q cs,g' q=ZC cs->q≠H.next->g2 q=ZC cs:=λq cs h1 h2=>by simp only[g2];rw[Ys h2];exact h1
  have hlen:(fab.take i ZV).1.l.length=fab.l.length:=by
   unfold Fab.take;split
   ·split
    ·rfl
    ·simp[Fab.put]
   ·rfl
  have fn:f≠H.next:=G.ne F.1
  refine⟨ne _ _ q3.1 fn,λj p hj=>BD λs hs=>ne _ _ (gZ (q3.2.1 j p hj) hs) λe=>?_,q3.2.2⟩;have hjl:j<fab.l.length:=by rw[<-hlen];exact(List.getElem?_eq_some_iff.1 hj).1
  exact F.Vk G ⟨j,s,hjl,hs,e.symm⟩
 refine⟨K2,g2,bg W W (aoV _ _ _ _ ?_),t3.sub λq cs h=>?_,F2,λq hq=>?_,((Step.new _ G.1).trans q5).trans t4⟩
 ·simp only[iJ]at q1;simp only[xq_,aif,q1,t1,t2,iJ]
 ·simp only[g2]at h;split at h
  ·cases h
  ·rename_i hne;rw[bF hne];exact h
 ·simp only[g2];split
  ·rename_i e;rw[e,hn]
  ·rename_i hne;rw[q4 q hq,bF hne]
end
section
variable {b:Nat}{H:ah}{g:bG}{q:Nat}{l:List Pkt}{room:Int}
def Y1(G:Good b H g)(hb:H.base<=b)(h:g q=ZC (nP l room))(h3:l.length<1000)(hd:∀p∈l,p.data.length<1000000000)(k:Nat)(hk:k<l.length):
  ∃v H',cl 94 [.ref q 0 0,I k] H=ZC (v,H')/\Good b H' (upd g q (nP (l.eraseIdx k) room))/\Step b H H':=by
 have⟨p,hp⟩:∃p,l[k]?=ZC p:=⟨_,List.getElem?_eq_getElem hk⟩
 have hq:=G.lt h;have G1:=G.newObj (ty:=81) (xs:=zP9) W;have h1:upd g H.next (zP9.map Cell.av) q=ZC (nP l room):=by rw[bF (by omega)];exact h
 have e1:=ab2 G1 h1 h3 hd k;rw[F (by omega),Int.toNat_natCast,hp]at e1;simp only[iJ,Option.getD_some,Option.isSome_some]at e1;have hb0:H.base<=H.next:=Nat.le_trans hb G.1
 have G2:=G1.newObj (ty:=81) (xs:=p.av) (aV _);have h2:upd (upd g H.next (zP9.map Cell.av)) (H.next+1) (p.av.map Cell.av) q=ZC (nP l room):=by rw[bF (by omega)];exact h1
 have⟨x,x',K1,K2,s1,s2,s3,s4,s5⟩:=Xn G2 (by rw[iO,iO];omega) h2 h3 hk;have G3:Good b K2 _:=s4;let gz:=upd (upd (upd g H.next (zP9.map Cell.av)) (H.next+1) (p.av.map Cell.av)) q (nP (l.eraseIdx k) room);have q2:gz (H.next+1)=ZC (p.av.map Cell.av):=by simp only[gz];rw[bF (by omega),aQ]
 have q1:gz H.next=ZC (zP9.map Cell.av):=by simp only[gz];rw[bF (by omega),bF (by omega),aQ]
 have l2:=G3.loads q2 (i:=0) (n:=9) (xs:=p.av) W W (by decide);have⟨K3,t1,t2,t3,t4⟩:=G3.stores (by rw[s5.base,iO,iO];exact hb) q1 (i:=0) (n:=9) (vs:=p.av) (by decide) W (aV _);have l3:=t2.loads aQ (i:=0) (n:=9) (xs:=p.av) W W (by decide);have w1:=wrap_i64 (a:=(k:Int)+1) (by omega) (by omega);have n1:g H.next=none:=G.isNone (Nat.le_refl _)
 have n2:g (H.next+1)=none:=G.isNone (by omega);refine⟨.tup [.agg p.av,B Z0],K3,bg W W (atQ _ _ _ _ ?_),t2.sub (((((uF.refl g).more n1 _).more n2 _).both q _).more (Ap n1 (by omega)) _),(((Step.new _ G.1).trans (Step.new _ (G.new _).1)).trans s5).trans t3⟩;simp only[Nat.reduceAdd,aI,xq_,hq_,aoo,e1,UL,hb0,bM,w1,s1,s2,s3,l2,t1,l3]
end
def wu {β:Type}{r gg o:Nat}{H H':ah}{k:M β}(h:H'.get r=H.get r):ck (bT (.ref r gg o)) H H' k=k:=YR λx b=>by
 simp only[bT,Option.some.injEq]at b;subst b;exact h
section
variable {β:Type}{r gg o:Nat}{X X':ah}{a a' c c':gG}{k:Option β}
def ckN(h:r<X.next):ck (bT (.ref r gg o)) (X.new a) (X.new a') k=k:=wu (by rw[aZ h,aZ h])
def ckM(h:r=X.next)(h':X'.next=X.next):ck (bT (.ref r gg o)) ((X.new a).new c) ((X'.new a).new c') k=k:=wu (by rw[aZ (H:=X'.new a) (by rw[eu,h'];omega),aZ (H:=X.new a) (by rw[eu];omega),aK (h.trans h'.symm),aK h])
end
def aq5 {β:Type}{l:Q Int}{H H':ah}{k:M β}:ck (bT (dat l)) H H' k=k:=YR λx b=>by
 by_cases h:l=[]
 ·subst h;simp[dat,gu,bT]at b
 ·rw[qN h]at b;simp[bT]at b
def lU:bW.zero.av=[zI,zI,zI,zI,zI,zI,zN,zI,zI]:=by simp[bW.zero,bW.av,dat,gu]
def acY(p:bW){d:Nat}:∀x∈p.av,Frz (d+2) x:=λx b=>by
 simp only[bW.av,List.mem_cons,List.not_mem_nil,zan]at b;rcases b with rfl|rfl|rfl|rfl|rfl|rfl|rfl|rfl|rfl <;> first|exact fC|exact sV
def acZ(H:ah)(k:Int):cl 223 [I k] H=ZC (I (Ar k),H):=by
 refine bg W W (aqf _ _ _ ?_);unfold Ar;by_cases b:k=1
 ·simp only[Int.reduceEq,xq_,Ej,b]
 ·by_cases d:k=2
  ·simp only[Int.reduceEq,xq_,Ej,d]
  ·by_cases e:k=3
   ·simp only[Int.reduceEq,xq_,Ej,e]
   ·by_cases g:k=4
    ·simp only[Int.reduceEq,xq_,Ej,g]
    ·by_cases h:k=5
     ·simp only[Int.reduceEq,xq_,Ej,h]
     ·by_cases i:k=6
      ·simp only[Int.reduceEq,xq_,Ej,i]
      ·simp only[xq_,Ej,b,d,e,g,h,i]
def afR(H:ah)(aW ak id:Int):cl 200 [I aW,I ak,I id] H=ZC (.agg (bW.begin aW ak id).av,H):=by
 refine bD W W (apZ _ _ _ _ _) ?_ (mD (acY _));have b:dat ([]:Q Int)=zN:=by simp[dat,gu]
 simp only[Int.reduceNeg,Nat.reduceAdd,Nat.reduceLeDiff,aI,xq_,hq_,ai0,aaA,jf,fO,amS,bW.begin,bW.av,b]
def Vl(H:ah)(d:bW)(p:Pkt):cl 216 [.agg d.av,.agg p.av] H=ZC (B (d.fits p),H):=by
 refine bD W W (ap7 _ _ _ _) ?_ fC;have b:=λH=>acZ H d.step;have e:=λH=>Rz H (Ar d.step);unfold bW.fits;by_cases g:D8 (Ar d.step)=0
 ·simp only[Nat.reduceLT,xq_,hq_,Lc,aC,bW.av,Pkt.av,b,e,g,Bool.not_true,Bool.false_and,not_true_eq_false]
 ·by_cases h:p.aW=D8 (Ar d.step)
  ·by_cases i:p.id=d.id
   ·by_cases j:p.ak=d.ak
    ·simp only[Nat.reduceLT,xq_,hq_,Lc,aC,bW.av,Pkt.av,b,e,g,h,i,j,Bool.not_false]
    ·simp only[Nat.reduceLT,xq_,hq_,Lc,aC,bW.av,Pkt.av,b,e,g,h,i,j,Bool.not_false,Bool.and_false]
   ·simp only[Nat.reduceLT,xq_,hq_,Lc,aC,bW.av,Pkt.av,b,e,g,h,i,Bool.not_false,Bool.false_and,Bool.and_false]
  ·simp only[Nat.reduceLT,xq_,hq_,Lc,aC,bW.av,Pkt.av,b,e,g,h,Bool.not_false,Bool.false_and,Bool.and_false]
def aq6(H:ah)(d:bW)(bC home:Int)(p:d.data.length<1000000000):cl 192 [.agg d.av,I bC,I home] H=ZC (.agg (d.ask bC home).av,H):=by
 refine bD W W (apM _ _ _ _ _) ?_ (mD (XI _));have g:=λH k=>acZ H k;have e:dat ([]:Q Int)=zN:=by simp[dat,gu]
 have q:=λH=>kC H d.data p;have u:=λH=>(gJ H d.data).lnS;have b:∀k,bd 81 [(0,I k),(1,I bC),(2,I home),(3,I d.id),(4,I d.ak)]=ZC (.agg [I k,I bC,I home,I d.id,I d.ak,zI,zI,zB,zN]):=λk=>by
  simp only[xq_,zC,jf,fO,Uj];rfl
 have v:bd 81 []=ZC (.agg zP9):=by simp only[xq_,zC,jf,dX]
 unfold bW.ask;by_cases h:d.step=1
 ·simp only[Nat.reduceLT,Int.reduceEq,Nat.reduceAdd,Nat.reduceLeDiff,aI,xq_,hq_,Ei,aC,bW.av,g,h,b,Ar,Pkt.av,e]
 ·by_cases i:d.step=2
  ·simp only[Nat.reduceLT,Int.reduceEq,Nat.reduceAdd,Nat.reduceLeDiff,aI,xq_,hq_,Ei,oP,aC,bW.av,g,i,b,Ar,Pkt.av,e]
  ·by_cases j:d.step=3
   ·simp only[Nat.reduceLT,Int.reduceEq,Nat.reduceAdd,Nat.reduceLeDiff,aI,xq_,hq_,Ei,oP,aC,bW.av,g,j,b,Ar,Pkt.av,e]
   ·by_cases m:d.step=4
    ·simp only[Nat.reduceLT,Int.reduceEq,Nat.reduceAdd,Nat.reduceLeDiff,aI,xq_,hq_,Ei,oP,aC,bW.av,g,m,b,Ar,Pkt.av,e,ckN]
    ·by_cases n:d.step=5
     ·simp only[Nat.reduceLT,Int.reduceEq,Nat.reduceAdd,Nat.reduceLeDiff,aI,xq_,hq_,Ei,oP,aC,bW.av,g,n,b,Ar,Pkt.av,e,ckN]
     ·by_cases o:d.step=6
      ·have w:YM (d.data≠[])=YM ((0:Int)<d.data.length):=by
        cases d.data with
        |nil=>rfl
        |cons a l=>
         have:(0:Int)<((a::l).length:Int):=by simp only[List.length_cons];omega
         simp only[this,ne_eq,zax];rfl
       simp only[Nat.reduceLT,Int.reduceEq,Nat.reduceAdd,Nat.reduceLeDiff,aI,xq_,hq_,Ei,oP,aC,bW.av,g,o,b,Ar,Pkt.av,q,u,w,ckN,aq5]
      ·simp only[Nat.reduceLT,Nat.reduceAdd,Nat.reduceLeDiff,aI,xq_,hq_,Ei,aC,bW.av,g,h,i,j,m,n,o,b,v,fM]
abbrev Lcl:=Nat->Option (List AV)
def iK(ls:Lcl)(r:Nat)(xs:Q AV):Lcl:=λx=>if x=r then ZC xs else ls x
def noL:Lcl:=λ_=>Z1
def lay(g:bG)(ls:Lcl):bG:=λq=>match ls q with
 |some xs=>ZC (xs.map Cell.av)
 |none=>g q
structure Loc(b:Nat)(K:ah)(g:bG)(ls:Lcl):Prop where
 good:Good b K (lay g ls)
 free:∀r,ls r≠none->g r=none
section
variable {b:Nat}{K:ah}{g:bG}{ls:Lcl}{r q:Nat}{xs:List AV}
def aj:iK ls r xs r=ZC xs:=by simp[iK]
def aB {x:Nat}(h:x≠r):iK ls r xs x=ls x:=by simp[iK,h]
def ac0:lay g (iK ls r xs)=upd (lay g ls) r (xs.map Cell.av):=by
 funext x
 simp only[lay,iK,upd];by_cases h:x=r
 ·simp[h]
 ·simp[h]
def OX {cs:List Cell}(h:ls q=none):lay (upd g q cs) ls=upd (lay g ls) q cs:=by
 funext x
 simp only[lay,upd];by_cases b:x=q
 ·subst b;simp[h]
 ·simp[b]
def Loc.of(G:Good b K g):Loc b K g noL:=⟨G,λ_ h=>absurd W h⟩
def Loc.out(L:Loc b K g ls):Good b K g:=L.good.sub λq cs h=>by
 unfold lay;cases d:ls q with
 |none=>exact h
 |some xs=>rw[L.free q (by rw[d];simp)]at h;cases h
def Loc.new(L:Loc b K g ls)(o:gG):Loc b (K.new o) g ls:=⟨L.good.new o,L.free⟩
def Loc.newL(L:Loc b K g ls){ty:XN}(hc:xs.all AV.aU=Z0)(hr:r=K.next)(ht:ty<gW:=by decide):Loc b (K.new (.blk 0 ty xs)) g (iK ls r xs):=by
 subst hr;refine⟨by rw[ac0];exact L.good.newObj hc ht,λx hx=>?_⟩;by_cases h:x=K.next
 ·rw[h];exact L.out.isNone (Nat.le_refl _)
 ·rw[aB h]at hx;exact L.free x hx
def pU(h:ls r=ZC xs):lay g ls r=ZC (xs.map Cell.av):=by simp[lay,h]
def Loc.at_(L:Loc b K g ls){cs:Q Cell}(h:g q=ZC cs):lay g ls q=ZC cs/\ls q=none:=by
 cases d:ls q with
 |none=>exact⟨by simp[lay,d,h],W⟩
 |some xs=>rw[L.free q (by rw[d];simp)]at h;cases h
def Loc.obj(L:Loc b K g ls){cs:Q Cell}(h:g q=ZC cs):lay g ls q=ZC cs:=(L.at_ h).1
def Loc.ld(L:Loc b K g ls)(h:ls r=ZC xs){i:Nat}{v:AV}(hi:xs[i]?=ZC v):ld (.ref r 0 i) K=ZC (v,K):=
 L.good.load (pU h) (i:=i) (x:=v) (by rw[List.getElem?_map,hi];rfl)
def Loc.lda(L:Loc b K g ls)(h:ls r=ZC xs){i n:Nat}{ys:Q AV}(hi:(xs.drop i).take n=ys)(d:ys.length=n)(e:0<n):lda n (.ref r 0 i) K=ZC (.agg ys,K):=
 L.good.loads (pU h) (i:=i) (n:=n) (xs:=ys) (by rw[<-hi,List.map_take,List.map_drop]) d e
def Y2 {i:Nat}{vs:Q AV}:rO (xs.map Cell.av) i vs=(aI xs i vs).map Cell.av:=by
 simp only[rO,aI,List.map_append,List.map_take,List.map_drop]
def Loc.als(L:Loc b K g ls)(h:ls r=ZC xs){K':ah}{ys:Q AV}(G:Good b K' (upd (lay g ls) r (ys.map Cell.av))):Loc b K' g (iK ls r ys):=by
 refine⟨by rw[ac0];exact G,λx d=>?_⟩;by_cases e:x=r
 ·subst e;exact L.free x (by rw[h];simp)
 ·rw[aB e]at d;exact L.free x d
def Loc.st(L:Loc b K g ls)(hb:K.base<=b)(h:ls r=ZC xs){i:Nat}{v:AV}(hi:i<xs.length)(hv:One v):∃K',st 1 (.ref r 0 i) v K=ZC (aX,K')/\Loc b K' g (iK ls r (xs.set i v))/\Step b K K':=by
 have⟨K',e,d,j,k⟩:=L.good.store hb (pU h) (i:=i) (by simpa using hi) hv;rw[<-List.map_set]at d;exact⟨K',e,L.als h d,j⟩
def Loc.sta(L:Loc b K g ls)(hb:K.base<=b)(h:ls r=ZC xs){i n:Nat}{vs:Q AV}(hi:i+n<=xs.length)(e:vs.length=n)(hv:vs.all AV.aU=Z0):∃K',Proofs.YtgplhpgkompkmaaGreat.st n (.ref r 0 i) (.agg vs) K=ZC (aX,K')/\Loc b K' g (iK ls r (aI xs i vs))/\Step b K K':=by
 have⟨K',j,d,k,m⟩:=L.good.stores hb (pU h) (i:=i) (by simpa using hi) e hv;rw[Y2]at d;exact⟨K',j,L.als h d,k⟩
def ac3 {vs:Q AV}(h:vs.length=xs.length):aI xs 0 vs=vs:=by
 unfold aI;rw[List.take_zero,List.nil_append,Nat.zero_add,List.drop_of_length_le V,List.append_nil]
def Loc.whole(L:Loc b K g ls)(hb:K.base<=b)(h:ls r=ZC xs){n:Nat}{vs:Q AV}(o:xs.length=n)(e:vs.length=n)(j:0<n)(hv:vs.all AV.aU=Z0):∃K',Proofs.YtgplhpgkompkmaaGreat.st n (.ref r 0 0) (.agg vs) K=ZC (aX,K')/\Proofs.YtgplhpgkompkmaaGreat.lda n (.ref r 0 0) K'=ZC (.agg vs,K')/\Loc b K' g (iK ls r vs)/\Step b K K':=by
 have⟨K',k,d,m⟩:=L.sta hb h (i:=0) (n:=n) (vs:=vs) V e hv;rw[ac3 V]at d;exact⟨K',k,d.lda aj (i:=0) (n:=n) (by rw[List.drop_zero,List.take_of_length_le V]) e j,d,m⟩
def Loc.call(L:Loc b K g ls){d cs:Q Cell}(k:g q=ZC d){K':ah}(G:Good b K' (upd (lay g ls) q cs)):Loc b K' (upd g q cs) ls:=by
 have⟨m,i⟩:=L.at_ k;refine⟨by rw[OX i];exact G,λr j=>?_⟩;have h:r≠q:=λe=>by subst e;exact j i
 rw[bF h];exact L.free r j
def Good.exact {b:Nat}{K:ah}{g:bG}{r:Nat}{xs:Q AV}(G:Good b K g)(h:g r=ZC (xs.map Cell.av)):∃ty,K.get r=.blk 0 ty xs/\ty<gW:=by
 have⟨_,τ,m⟩:=G;have R:=m r _ h;have⟨ty,d,e,j,o,n⟩:=R.blk;have:d=xs:=by
  apply List.ext_getElem?
  intro i;rcases Nat.lt_or_ge i xs.length with hi|hi
  ·have k:d[i]?=ZC (d[i]'(by simp at j;omega)):=List.getElem?_eq_getElem _;have:=n i (.av xs[i]) _ (by simp[hi]) k;simp only[CR]at this;rw[k,this];simp[hi]
  ·rw[List.getElem?_eq_none (by simp at j;omega),List.getElem?_eq_none hi]
 subst this;exact⟨ty,e,R.tyl _ _ _ e⟩
def XL {b:Nat}{K K':ah}{g g':bG}{r:Nat}{xs:Q AV}(G:Good b K g)(G':Good b K' g')(hk:Keeps K K')(h:g r=ZC (xs.map Cell.av))(j:g' r=ZC (xs.map Cell.av)):K'.get r=K.get r:=by
 have m:=G.lt h;have⟨q,d,u⟩:=G.exact h;have⟨n,e,o⟩:=G'.exact j;have⟨v,p,w,i,k⟩:=hk.types r m _ _ _ d;rw[e]at i;cases i;rcases k with rfl|k
 ·rw[d,e]
 ·exact absurd k (Nat.not_le.2 o)
end
structure COk(ca:Cache):Prop where
 len:ca.l.length<1000000
 sets:1<=ca.sets
 clk:0<=ca.dN/\ca.dN<1000000000
 dat:∀e∈ca.l,e.data.length<1000000000
 used:∀e∈ca.l,0<=e.used/\e.used<1000000000
def BI {b:Nat}{H:ah}{g:bG}{q:Nat}(G:Good b H g)(hb:H.base<=b){c:Cache}(h:g q=ZC (dD c))(C:COk c)(e:Ent)(d:e.data.length<1000000000):
  ∃H',cl 191 [.ref q 0 0,.agg e.av] H=ZC (I (c.put e).2,H')/\Good b H' (upd g q (dD (c.put e).1))/\Step b H H':=
 XB G hb h C.len C.sets C.clk e d (qc _ e.data)
def uH(n:Nxt):AV:=.tup [.agg n.2.1.av,B n.2.2]
abbrev zD9:List AV:=[zI,zI,zI,zI,zI,zI,zN,zI,zI]
def Ep:dat ([]:Q Int)=zN:=by simp[dat,gu]
section
variable {b:Nat}{H:ah}{g:bG}{q:Nat}{ca:Cache}
def aly(G:Good b H g)(hb:H.base<=b)(h:g q=some (dD ca))(C:COk ca)(d:bW)(bC:Int)(p:Pkt)(hp:p.data.length<1000000000):
  ∃H',cl 218 [.agg d.av,I bC,.ref q 0 0,.agg p.av] H=some (uH ((ca.put ⟨d.head,-1,d.ak,0,false,p.data⟩).1,{ d with step:=6,state:=1,head:=bC,data:=if p.flag then p.data else [] },true),H')/\
   Good b H' (upd g q (dD (ca.put ⟨d.head,-1,d.ak,0,false,p.data⟩).1))/\Step b H H':=by
 refine kN rfl rfl (aqa _ _ _ _ _ _) ?_;have L1:=(Loc.of G).newL (ty:=73) (xs:=d.av) (r:=H.next) (bH d) rfl;have L2:=L1.newL (ty:=81) (xs:=p.av) (r:=H.next+1) (aV p) (by rw[eu]);have L3:=L2.newL (ty:=73) (xs:=zD9) (r:=H.next+1+1) rfl (by rw[eu,eu]);have s3:Step b H _:=((Step.new (.blk 0 73 d.av) G.1).trans (Step.new (.blk 0 81 p.av) L1.good.1)).trans (Step.new (.blk 0 73 zD9) L2.good.1);have d1:=L3.ld (r:=H.next) (i:=1) (v:=I d.ak) (by first|exact aj|(rw[aB (by omega)];first|exact aj|(rw[aB (by omega)];first|exact aj|(rw[aB (by omega)];first|exact aj|(rw[aB (by omega)];first|exact aj|(rw[aB (by omega)];exact aj)))))) rfl;have d5:=L3.ld (r:=H.next) (i:=5) (v:=I d.head) (by first|exact aj|(rw[aB (by omega)];first|exact aj|(rw[aB (by omega)];first|exact aj|(rw[aB (by omega)];first|exact aj|(rw[aB (by omega)];first|exact aj|(rw[aB (by omega)];exact aj)))))) rfl;have p8:=L3.ld (r:=H.next+1) (i:=8) (v:=dat p.data) (by first|exact aj|(rw[aB (by omega)];first|exact aj|(rw[aB (by omega)];first|exact aj|(rw[aB (by omega)];first|exact aj|(rw[aB (by omega)];first|exact aj|(rw[aB (by omega)];exact aj)))))) rfl;have e1:=λH=>acK H d.ak d.head (-1) false hp (qc H p.data);obtain⟨K1,a1,a2,a3⟩:=BI L3.good (by rw[s3.base];exact hb) (L3.obj h) C ⟨d.head,-1,d.ak,0,false,p.data⟩ hp;have M1:=L3.call h a2;have t1:=s3.trans a3;obtain⟨K2,u2,M2,w2⟩:=M1.st (by rw[t1.base];exact hb) (r:=H.next) (by first|exact aj|(rw[aB (by omega)];first|exact aj|(rw[aB (by omega)];first|exact aj|(rw[aB (by omega)];first|exact aj|(rw[aB (by omega)];first|exact aj|(rw[aB (by omega)];exact aj)))))) (i:=3) (v:=I 6) (by simp[bW.av]) dU;have t2:=t1.trans w2;obtain⟨K3,u3,M3,w3⟩:=M2.st (by rw[t2.base];exact hb) (r:=H.next) (by first|exact aj|(rw[aB (by omega)];first|exact aj|(rw[aB (by omega)];first|exact aj|(rw[aB (by omega)];first|exact aj|(rw[aB (by omega)];first|exact aj|(rw[aB (by omega)];exact aj)))))) (i:=4) (v:=I 1) (by simp[bW.av]) dU;have t3:=t2.trans w3;obtain⟨K4,u4,M4,w4⟩:=M3.st (by rw[t3.base];exact hb) (r:=H.next) (by first|exact aj|(rw[aB (by omega)];first|exact aj|(rw[aB (by omega)];first|exact aj|(rw[aB (by omega)];first|exact aj|(rw[aB (by omega)];first|exact aj|(rw[aB (by omega)];exact aj)))))) (i:=5) (v:=I bC) (by simp[bW.av]) dU;have t4:=t3.trans w4;obtain⟨K5,u5,M5,w5⟩:=M4.st (by rw[t4.base];exact hb) (r:=H.next) (by first|exact aj|(rw[aB (by omega)];first|exact aj|(rw[aB (by omega)];first|exact aj|(rw[aB (by omega)];first|exact aj|(rw[aB (by omega)];first|exact aj|(rw[aB (by omega)];exact aj)))))) (i:=6) (v:=zN) (by simp[bW.av]) qG;have t5:=t4.trans w5
 have p7:=M5.ld (r:=H.next+1) (i:=7) (v:=B p.flag) (by first|exact aj|(rw[aB (by omega)];first|exact aj|(rw[aB (by omega)];first|exact aj|(rw[aB (by omega)];first|exact aj|(rw[aB (by omega)];first|exact aj|(rw[aB (by omega)];exact aj)))))) rfl;cases hf:p.flag with
 |true=>
  rw[hf]at p7;have q8:=M5.ld (r:=H.next+1) (i:=8) (v:=dat p.data) (by first|exact aj|(rw[aB (by omega)];first|exact aj|(rw[aB (by omega)];first|exact aj|(rw[aB (by omega)];first|exact aj|(rw[aB (by omega)];first|exact aj|(rw[aB (by omega)];exact aj)))))) rfl;have e2:=λH=>kC H p.data hp;obtain⟨K6,u6,M6,w6⟩:=M5.st (by rw[t5.base];exact hb) (r:=H.next) (by first|exact aj|(rw[aB (by omega)];first|exact aj|(rw[aB (by omega)];first|exact aj|(rw[aB (by omega)];first|exact aj|(rw[aB (by omega)];first|exact aj|(rw[aB (by omega)];exact aj)))))) (i:=6) (v:=dat p.data) (by simp[bW.av]) sU;have t6:=t5.trans w6;have f1:=M6.lda (r:=H.next) (by first|exact aj|(rw[aB (by omega)];first|exact aj|(rw[aB (by omega)];first|exact aj|(rw[aB (by omega)];first|exact aj|(rw[aB (by omega)];first|exact aj|(rw[aB (by omega)];exact aj)))))) (i:=0) (n:=9) (ys:=(bW.mk d.aW d.ak d.id 6 1 bC p.data d.next d.told).av) rfl rfl (by decide);obtain⟨K7,u7,v7,M7,w7⟩:=M6.whole (by rw[t6.base];exact hb) (r:=H.next+1+1) (by first|exact aj|(rw[aB (by omega)];first|exact aj|(rw[aB (by omega)];first|exact aj|(rw[aB (by omega)];first|exact aj|(rw[aB (by omega)];first|exact aj|(rw[aB (by omega)];exact aj)))))) (n:=9) (vs:=(bW.mk d.aW d.ak d.id 6 1 bC p.data d.next d.told).av) rfl rfl (by decide) (bH _);refine⟨K7,?_,M7.out,t6.trans w7⟩;simp only[Nat.reduceLT,Int.reduceNeg,xq_,abR,FZ,aC (bH d),aC (aV p),d1,d5,p8,e1,a1,u2,u3,u4,u5,p7,q8,e2,u6,f1,u7,v7,uH]
 |false=>
  rw[hf]at p7;have f1:=M5.lda (r:=H.next) (by first|exact aj|(rw[aB (by omega)];first|exact aj|(rw[aB (by omega)];first|exact aj|(rw[aB (by omega)];first|exact aj|(rw[aB (by omega)];first|exact aj|(rw[aB (by omega)];exact aj)))))) (i:=0) (n:=9) (ys:=(bW.mk d.aW d.ak d.id 6 1 bC [] d.next d.told).av) (by simp only[bW.av,Ep];rfl) rfl (by decide);obtain⟨K7,u7,v7,M7,w7⟩:=M5.whole (by rw[t5.base];exact hb) (r:=H.next+1+1) (by first|exact aj|(rw[aB (by omega)];first|exact aj|(rw[aB (by omega)];first|exact aj|(rw[aB (by omega)];first|exact aj|(rw[aB (by omega)];first|exact aj|(rw[aB (by omega)];exact aj)))))) (n:=9) (vs:=(bW.mk d.aW d.ak d.id 6 1 bC [] d.next d.told).av) rfl rfl (by decide) (bH _);refine⟨K7,?_,M7.out,t5.trans w7⟩;simp only[Nat.reduceLT,Int.reduceNeg,xq_,abR,FZ,aC (bH d),aC (aV p),d1,d5,p8,e1,a1,u2,u3,u4,u5,p7,f1,u7,v7,uH]
def vK(d:bW)(bC:Int)(c:Cache)(p:Pkt):Nxt:=
 if p.state≠0 then(c,{ d with state:=p.state,head:=p.ptr,told:=p.ptr,data:=p.data,step:=2 },Z0)
 else((c.put ⟨-1,-1,d.ak,0,ZV,p.data⟩).1,{ d with told:=p.ptr,step:=6,state:=1,head:=bC,data:=[] },Z0)
def ac4(G:Good b H g)(hb:H.base<=b)(h:g q=some (dD ca))(C:COk ca)(d:bW)(bC:Int)(p:Pkt)(hp:p.data.length<1000000000):
  ∃H',cl 217 [.agg d.av,I bC,.ref q 0 0,.agg p.av] H=some (uH (vK d bC ca p),H')/\Good b H' (upd g q (dD (vK d bC ca p).1))/\Step b H H':=by
 have hb0:H.base<=H.next:=Nat.le_trans hb G.1
 have e2:=λH=>kC H p.data hp;refine kN rfl rfl (ap9 _ _ _ _ _ _) ?_;by_cases hs:p.state=0;rotate_left
 ·have hm:vK d bC ca p=(ca,{ d with state:=p.state,head:=p.ptr,told:=p.ptr,data:=p.data,step:=2 },true):=by simp only[vK];rw[if_pos hs]
  rw[hm];refine⟨((H.new (.blk 0 73 (bW.mk d.aW d.ak d.id 2 p.state p.ptr p.data d.next p.ptr).av)).new (.blk 0 81 p.av)).new (.blk 0 73 (bW.mk d.aW d.ak d.id 2 p.state p.ptr p.data d.next p.ptr).av),?_,by rw[fP h];exact((G.new _).new _).new _,((Step.new _ G.1).trans (Step.new _ (G.new _).1)).trans (Step.new _ ((G.new _).new _).1)⟩;simp only[Nat.reduceLT,Int.reduceNeg,Nat.reduceAdd,Nat.reduceLeDiff,aI,xq_,hq_,abQ,aC,bW.av,Pkt.av,e2,hb0,ckM,hs,Bool.not_false,uH]
 ·have hm:vK d bC ca p=((ca.put ⟨-1,-1,d.ak,0,false,p.data⟩).1,{ d with told:=p.ptr,step:=6,state:=1,head:=bC,data:=[] },true):=by simp only[vK];rw[if_neg (λh=>h hs)]
  rw[hm];let d2:bW:=bW.mk d.aW d.ak d.id d.step p.state p.ptr p.data d.next p.ptr
  have L1:=(Loc.of G).newL (ty:=73) (xs:=d2.av) (r:=H.next) (bH d2) rfl;have L2:=L1.newL (ty:=81) (xs:=p.av) (r:=H.next+1) (aV p) (by rw[eu]);have L3:=L2.newL (ty:=73) (xs:=zD9) (r:=H.next+1+1) rfl (by rw[eu,eu]);have s3:Step b H _:=((Step.new (.blk 0 73 d2.av) G.1).trans (Step.new (.blk 0 81 p.av) L1.good.1)).trans (Step.new (.blk 0 73 zD9) L2.good.1);have e1:=λH=>acK H d.ak (-1) (-1) false hp (qc H p.data);obtain⟨K1,a1,a2,a3⟩:=BI L3.good (by rw[s3.base];exact hb) (L3.obj h) C ⟨-1,-1,d.ak,0,false,p.data⟩ hp;have M1:=L3.call h a2;have t1:=s3.trans a3;obtain⟨K2,u2,M2,w2⟩:=M1.st (by rw[t1.base];exact hb) (r:=H.next) (by first|exact aj|(rw[aB (by omega)];first|exact aj|(rw[aB (by omega)];first|exact aj|(rw[aB (by omega)];first|exact aj|(rw[aB (by omega)];first|exact aj|(rw[aB (by omega)];exact aj)))))) (i:=3) (v:=I 6) (by simp[bW.av]) dU;have t2:=t1.trans w2;obtain⟨K3,u3,M3,w3⟩:=M2.st (by rw[t2.base];exact hb) (r:=H.next) (by first|exact aj|(rw[aB (by omega)];first|exact aj|(rw[aB (by omega)];first|exact aj|(rw[aB (by omega)];first|exact aj|(rw[aB (by omega)];first|exact aj|(rw[aB (by omega)];exact aj)))))) (i:=4) (v:=I 1) (by simp[bW.av]) dU;have t3:=t2.trans w3;obtain⟨K4,u4,M4,w4⟩:=M3.st (by rw[t3.base];exact hb) (r:=H.next) (by first|exact aj|(rw[aB (by omega)];first|exact aj|(rw[aB (by omega)];first|exact aj|(rw[aB (by omega)];first|exact aj|(rw[aB (by omega)];first|exact aj|(rw[aB (by omega)];exact aj)))))) (i:=5) (v:=I bC) (by simp[bW.av]) dU;have t4:=t3.trans w4;obtain⟨K5,u5,M5,w5⟩:=M4.st (by rw[t4.base];exact hb) (r:=H.next) (by first|exact aj|(rw[aB (by omega)];first|exact aj|(rw[aB (by omega)];first|exact aj|(rw[aB (by omega)];first|exact aj|(rw[aB (by omega)];first|exact aj|(rw[aB (by omega)];exact aj)))))) (i:=6) (v:=zN) (by simp[bW.av]) qG;have t5:=t4.trans w5;have f1:=M5.lda (r:=H.next) (by first|exact aj|(rw[aB (by omega)];first|exact aj|(rw[aB (by omega)];first|exact aj|(rw[aB (by omega)];first|exact aj|(rw[aB (by omega)];first|exact aj|(rw[aB (by omega)];exact aj)))))) (i:=0) (n:=9) (ys:=(bW.mk d.aW d.ak d.id 6 1 bC [] d.next p.ptr).av) (by simp only[bW.av,Ep];rfl) rfl (by decide);obtain⟨K7,u7,v7,M7,w7⟩:=M5.whole (by rw[t5.base];exact hb) (r:=H.next+1+1) (by first|exact aj|(rw[aB (by omega)];first|exact aj|(rw[aB (by omega)];first|exact aj|(rw[aB (by omega)];first|exact aj|(rw[aB (by omega)];first|exact aj|(rw[aB (by omega)];exact aj)))))) (n:=9) (vs:=(bW.mk d.aW d.ak d.id 6 1 bC [] d.next p.ptr).av) rfl rfl (by decide) (bH _);refine⟨K7,?_,M7.out,t5.trans w7⟩;simp only[d2,bW.av,Pkt.av,hs,Ep]at a1 f1 u7 v7;simp only[Nat.reduceLT,Int.reduceNeg,Nat.reduceAdd,Nat.reduceLeDiff,aI,xq_,hq_,abQ,aC,bW.av,Pkt.av,e2,hb0,ckM,hs,Bool.not_true,e1,a1,u2,u3,u4,u5,f1,u7,v7,uH,Ep]
def vM(G:Good b H g)(d:bW)(p:Pkt):∃ls:Lcl,Loc b (((H.new (.blk 0 73 d.av)).new (.blk 0 81 p.av)).new (.blk 0 73 zD9)) g ls/\ls H.next=ZC d.av/\ls (H.next+1)=ZC p.av/\ls (H.next+1+1)=ZC zD9/\
  Step b H (((H.new (.blk 0 73 d.av)).new (.blk 0 81 p.av)).new (.blk 0 73 zD9)):=by
 have L1:=(Loc.of G).newL (ty:=73) (xs:=d.av) (r:=H.next) (bH d) W;have L2:=L1.newL (ty:=81) (xs:=p.av) (r:=H.next+1) (aV p) (by rw[eu]);have L3:=L2.newL (ty:=73) (xs:=zD9) (r:=H.next+1+1) W (by rw[eu,eu]);exact⟨_,L3,(by first|exact aj|(rw[aB (by omega)];first|exact aj|(rw[aB (by omega)];first|exact aj|(rw[aB (by omega)];first|exact aj|(rw[aB (by omega)];first|exact aj|(rw[aB (by omega)];exact aj)))))),(by first|exact aj|(rw[aB (by omega)];first|exact aj|(rw[aB (by omega)];first|exact aj|(rw[aB (by omega)];first|exact aj|(rw[aB (by omega)];first|exact aj|(rw[aB (by omega)];exact aj)))))),(by first|exact aj|(rw[aB (by omega)];first|exact aj|(rw[aB (by omega)];first|exact aj|(rw[aB (by omega)];first|exact aj|(rw[aB (by omega)];first|exact aj|(rw[aB (by omega)];exact aj)))))),((Step.new (.blk 0 73 d.av) G.1).trans (Step.new (.blk 0 81 p.av) L1.good.1)).trans (Step.new (.blk 0 73 zD9) L2.good.1)⟩
def ac5(G:Good b H g)(hb:H.base<=b)(h:g q=ZC (dD ca))(C:COk ca)(d:bW)(bC:Int)(p:Pkt)(hp:p.data.length<1000000000):
  ∃H',cl 184 [.agg d.av,I bC,.ref q 0 0,.agg p.av] H=ZC (uH (dW d bC ca p),H')/\Good b H' (upd g q (dD (dW d bC ca p).1))/\Step b H H':=by
 refine kN W W (apD _ _ _ _ _ _) ?_;have⟨ls,L,k0,k1,k2,s⟩:=vM G d p;have d0:=L.ld k0 (i:=0) (v:=I d.aW) W;have d3:=L.ld k0 (i:=3) (v:=I d.step) W;have dA:=L.lda k0 (i:=0) (n:=9) (ys:=d.av) W W (by decide);have pA:=L.lda k1 (i:=0) (n:=9) (ys:=p.av) W W (by decide);have hf:=λH=>Vl H d p;have ez:bd 73 []=ZC (.agg zD9):=by simp only[xq_,aaA,jf,dX]
 have hbK:(((H.new (.blk 0 73 d.av)).new (.blk 0 81 p.av)).new (.blk 0 73 zD9)).base<=b:=by rw[s.base];exact hb
 have⟨Kz,z1,z2,z3,z4⟩:=L.whole hbK k2 (n:=9) (vs:=zD9) W W (by decide) W;have no:yJ ca=(ca,.zero,ZV):=rfl;have zu:Good b Kz (upd g q (dD ca)):=by rw[fP h];exact z3.out
 by_cases h1:d.aW≠1∨d.fits p=ZV
 ·have hm:dW d bC ca p=(ca,.zero,ZV):=by simp only[dW];rw[y h1];rfl
  rw[hm];refine⟨Kz,?_,zu,s.trans z4⟩;by_cases hk:d.aW=1
  ·have hff:d.fits p=false:=h1.resolve_left (λh=>h hk);rw[hk]at d0;simp only[Nat.reduceLT,xq_,I4,aC (bH d),aC (aV p),d0,dA,pA,hf,hff,Bool.not_true,Bool.not_false,ez,z1,z2,uH,lU]
  ·simp only[Nat.reduceLT,xq_,I4,aC (bH d),aC (aV p),d0,hk,Bool.not_false,ez,z1,z2,uH,lU]
 ·have hk:d.aW=1:=zar λh=>h1 (.inl h);have hff:d.fits p=true:=by cases hx:d.fits p <;> simp_all
  rw[hk]at d0;by_cases s1:d.step=1
  ·have hm:dW d bC ca p=vK d bC ca p:=by simp only[dW,vK];rw[F h1,y s1]
   rw[hm];rw[s1]at d3;have⟨K1,a1,a2,a3⟩:=ac4 L.good hbK (L.obj h) C d bC p hp;have M:=L.call h a2;have⟨K2,u1,u2,u3,u4⟩:=M.whole (by rw[a3.base];exact hbK) k2 (n:=9) (vs:=(vK d bC ca p).2.1.av) W W (by decide) (bH _);refine⟨K2,?_,u3.out,(s.trans a3).trans u4⟩;simp only[uH]at a1;simp only[Nat.reduceLT,Int.reduceEq,xq_,I4,aC (bH d),aC (aV p),d0,dA,pA,hf,hff,Bool.not_true,d3,a1,u1,u2,uH]
  ·by_cases s2:d.step=2
   ·have hm:dW d bC ca p=((ca.put ⟨d.head,-1,d.ak,0,ZV,p.data⟩).1,{ d with step:=6,state:=1,head:=bC,data:=if p.flag then p.data else [] },Z0):=by simp only[dW];rw[F h1,F s1,y s2]
    rw[hm];have⟨K1,a1,a2,a3⟩:=aly L.good hbK (L.obj h) C d bC p hp;have M:=L.call h a2;have⟨K2,u1,u2,u3,u4⟩:=M.whole (by rw[a3.base];exact hbK) k2 (n:=9) (vs:=({ d with step:=6,state:=1,head:=bC,data:=if p.flag then p.data else [] }:bW).av) W W (by decide) (bH _);refine⟨K2,?_,u3.out,(s.trans a3).trans u4⟩;rw[s2]at d3;simp only[uH]at a1;simp only[Nat.reduceLT,Int.reduceEq,xq_,I4,aC (bH d),aC (aV p),d0,dA,pA,hf,hff,Bool.not_true,d3,a1,u1,u2,uH]
   ·by_cases s6:d.step=6
    ·have hm:dW d bC ca p=(ca,{ d with step:=0 },Z0):=by simp only[dW];rw[F h1,F s1,F s2,y s6]
     rw[hm];have⟨K1,a1,M,a3⟩:=L.st hbK k0 (i:=3) (v:=I 0) (by simp[bW.av]) dU;have k2':iK ls H.next (d.av.set 3 (I 0)) (H.next+1+1)=ZC zD9:=by rw[aB (by omega)];exact k2
     have dB:=M.lda aj (i:=0) (n:=9) (ys:=({ d with step:=0 }:bW).av) W W (by decide);have⟨K2,u1,u2,u3,u4⟩:=M.whole (by rw[a3.base];exact hbK) k2' (n:=9) (vs:=({ d with step:=0 }:bW).av) W W (by decide) (bH _);refine⟨K2,?_,by rw[fP h];exact u3.out,(s.trans a3).trans u4⟩;rw[s6]at d3;simp only[Nat.reduceLT,Int.reduceEq,xq_,I4,aC (bH d),aC (aV p),d0,dA,pA,hf,hff,Bool.not_true,d3,a1,dB,u1,u2,uH]
    ·have hm:dW d bC ca p=(ca,.zero,ZV):=by simp only[dW];rw[F h1,F s1,F s2,F s6];rfl
     rw[hm];refine⟨Kz,?_,zu,s.trans z4⟩;simp only[Nat.reduceLT,xq_,I4,aC (bH d),aC (aV p),d0,dA,pA,hf,hff,Bool.not_true,d3,s1,s2,s6,ez,z1,z2,uH,lU]
end
abbrev zE6:List AV:=[zI,zI,zI,zI,zB,zN]
def oU {n r gg i:Nat}{v u:AV}{K K':ah}(h:st n (.ref r gg i) v K=ZC (u,K')){x:Nat}(d:x≠r):K'.get x=K.get x:=by
 unfold st at h;simp only at h;cases b:K.get r with
 |map k e=>rw[b]at h;cases h
 |blk g' g cells=>
  rw[b]at h;simp only at h;split at h
  ·simp only[Option.some.injEq,zaa]at h;rw[<-h.2,dJ,F d]
  ·cases h
section
variable {b:Nat}{H:ah}{g:bG}{q:Nat}{ca:Cache}
def vN(d:bW)(bC:Int)(c:Cache):Cache × bW:=
 if d.next≠-1 then(c,{ d with step:=3 })
 else((c.put ⟨-1,-1,d.ak,0,Z0,d.data⟩).1,{ d with step:=6,state:=2,head:=bC,data:=[] })
def Dz {K:ah}{ls:Lcl}(L:Loc b K g ls)(hb:K.base<=b)(h:g q=ZC (dD ca))(C:COk ca)(d:bW)(bC:Int)(hd:d.data.length<1000000000){r r':Nat}(hrr:r≠r')(k0:ls r=ZC d.av)(k1:ls r'=ZC zD9):
  ∃H',Bq cl (I bC) (.ref q 0 0) (.ref r 0 0) (.ref r' 0 0) K=ZC (.agg (vN d bC ca).2.av,H')/\Good b H' (upd g q (dD (vN d bC ca).1))/\Step b K H':=by
 have d7:=L.ld k0 (i:=7) (v:=I d.next) W;by_cases hn:d.next=-1
 rotate_left
 ·have hm:vN d bC ca=(ca,{ d with step:=3 }):=by unfold vN;rw[y hn]
  rw[hm];have⟨K1,a1,M1,a3⟩:=L.st hb k0 (i:=3) (v:=I 3) (by simp[bW.av]) dU;have k2':iK ls r (d.av.set 3 (I 3)) r'=ZC zD9:=by rw[aB hrr.symm];exact k1
  have dB:=M1.lda aj (i:=0) (n:=9) (ys:=({ d with step:=3 }:bW).av) W W (by decide);have⟨K2,u1,u2,u3,u4⟩:=M1.whole (by rw[a3.base];exact hb) k2' (n:=9) (vs:=({ d with step:=3 }:bW).av) W W (by decide) (bH _);refine⟨K2,?_,by rw[fP h];exact u3.out,a3.trans u4⟩;simp only[Int.reduceNeg,xq_,Bq,d7,hn,Bool.not_false,a1,dB,u1,u2]
 ·have hm:vN d bC ca=((ca.put ⟨-1,-1,d.ak,0,Z0,d.data⟩).1,{ d with step:=6,state:=2,head:=bC,data:=[] }):=by unfold vN;rw[F (λh=>h hn)]
  rw[hm];have d1:=L.ld k0 (i:=1) (v:=I d.ak) W;have d6:=L.ld k0 (i:=6) (v:=dat d.data) W;have e1:=λH=>acK H d.ak (-1) (-1) Z0 hd (qc H d.data);have⟨K1,a1,a2,a3⟩:=BI L.good hb (L.obj h) C ⟨-1,-1,d.ak,0,Z0,d.data⟩ hd;have M1:=L.call h a2;have⟨K2,u2,M2,w2⟩:=M1.st (by rw[a3.base];exact hb) k0 (i:=3) (v:=I 6) (by simp[bW.av]) dU;have t2:=a3.trans w2;have⟨K3,u3,M3,w3⟩:=M2.st (by rw[t2.base];exact hb) aj (i:=4) (v:=I 2) (by simp[bW.av]) dU;have t3:=t2.trans w3;have⟨K4,u4,M4,w4⟩:=M3.st (by rw[t3.base];exact hb) aj (i:=5) (v:=I bC) (by simp[bW.av]) dU;have t4:=t3.trans w4;have⟨K5,u5,M5,w5⟩:=M4.st (by rw[t4.base];exact hb) aj (i:=6) (v:=zN) (by simp[bW.av]) qG;have t5:=t4.trans w5;have f1:=M5.lda aj (i:=0) (n:=9) (ys:=(bW.mk d.aW d.ak d.id 6 2 bC [] d.next d.told).av) (by simp only[bW.av,Ep];rfl) W (by decide);have hne:r'≠r:=hrr.symm;have⟨K7,u7,v7,M7,w7⟩:=M5.whole (by rw[t5.base];exact hb) (r:=r') (xs:=zD9) (by rw[aB hne,aB hne,aB hne,aB hne];exact k1) (n:=9) (vs:=(bW.mk d.aW d.ak d.id 6 2 bC [] d.next d.told).av) W W (by decide) (bH _);refine⟨K7,?_,M7.out,t5.trans w7⟩;simp only[hn]at u7 v7;simp only[Int.reduceNeg,xq_,Bq,d7,hn,Bool.not_true,d1,d6,e1,a1,u2,u3,u4,u5,f1,u7,v7]
def alz(G:Good b H g)(hb:H.base<=b)(h:g q=ZC (dD ca))(C:COk ca)(d:bW)(bC:Int)(hd:d.data.length<1000000000):
  ∃H',cl 219 [.agg d.av,I bC,.ref q 0 0] H=ZC (.agg (dw d bC ca).2.av,H')/\Good b H' (upd g q (dD (dw d bC ca).1))/\Step b H H':=by
 refine kN W W (aqb _ _ _ _ _) ?_;have L1:=(Loc.of G).newL (ty:=73) (xs:=d.av) (r:=H.next) (bH d) W;have L2:=L1.newL (ty:=73) (xs:=zD9) (r:=H.next+1) W (by rw[eu]);have d1:=L2.ld (r:=H.next) (i:=1) (v:=I d.ak) (by(repeat rw[aB (by omega)]);first|exact k0|exact k1|exact k2|rw[aj]) W;have ef:=nI L2.good (L2.obj h) C.len C.dat d.ak;have L3:=L2.newL (ty:=100) (xs:=zE6) (r:=H.next+1+1) W (by rw[eu,eu]);have s3:Step b H _:=((Step.new (.blk 0 73 d.av) G.1).trans (Step.new (.blk 0 73 zD9) L1.good.1)).trans (Step.new (.blk 0 100 zE6) L2.good.1);have⟨K1,z1,z2,M,z4⟩:=L3.whole (by rw[s3.base];exact hb) (r:=H.next+1+1) (xs:=zE6) (by(repeat rw[aB (by omega)]);first|exact k0|exact k1|exact k2|rw[aj]) (n:=6) (vs:=((ca.find d.ak).getD .zero).av) W W (by decide) (jR _);have t1:=s3.trans z4;have d7:=M.ld (r:=H.next) (i:=7) (v:=I d.next) (by(repeat rw[aB (by omega)]);first|exact k0|exact k1|exact k2|rw[aj]) W;simp only[jG]at ef;cases hfd:ca.find d.ak with
 |none=>
  have hm:dw d bC ca=vN d bC ca:=by simp only[dw,hfd];rfl
  rw[hm];rw[hfd]at ef z1;simp only[Option.isSome_none]at ef;have⟨K2,u1,u2,u3⟩:=Dz M (by rw[t1.base];exact hb) h C d bC hd (r:=H.next) (r':=H.next+1) (by omega) (by(repeat rw[aB (by omega)]);first|exact k0|exact k1|exact k2|rw[aj]) (by(repeat rw[aB (by omega)]);first|exact k0|exact k1|exact k2|rw[aj]);refine⟨K2,?_,u2,t1.trans u3⟩;by_cases hn:d.next=bC
  ·rw[hn]at d7;simp only[Nat.reduceLT,xq_,QY,aC (bH d),d1,ef,z1,d7];exact u1
  ·simp only[Nat.reduceLT,xq_,QY,aC (bH d),d1,ef,z1,d7,hn];exact u1
 |some own=>
  rw[hfd]at ef z1 M;simp only[Option.isSome_some,Option.getD_some]at ef z1 M;by_cases hn:d.next=bC
  ·have hm:dw d bC ca=vN { d with next:=own.fwd } bC ca:=by simp only[dw,hfd];rw[y hn];rfl
   rw[hm];have e0:=M.ld (r:=H.next+1+1) (i:=0) (v:=I own.fwd) (by(repeat rw[aB (by omega)]);first|exact k0|exact k1|exact k2|rw[aj]) W;have⟨K2,y1,M2,y3⟩:=M.st (by rw[t1.base];exact hb) (r:=H.next) (xs:=d.av) (by(repeat rw[aB (by omega)]);first|exact k0|exact k1|exact k2|rw[aj]) (i:=7) (v:=I own.fwd) (by simp[bW.av]) dU;have t2:=t1.trans y3;have⟨K3,u1,u2,u3⟩:=Dz M2 (by rw[t2.base];exact hb) h C { d with next:=own.fwd } bC hd (r:=H.next) (r':=H.next+1) (by omega) (by rw[aj];rfl) (by(repeat rw[aB (by omega)]);first|exact k0|exact k1|exact k2|rw[aj]);refine⟨K3,?_,u2,t2.trans u3⟩;rw[hn]at d7;simp only[Nat.reduceLT,xq_,QY,aC (bH d),d1,ef,z1,d7,e0,y1];exact u1
  ·have hm:dw d bC ca=vN d bC ca:=by simp only[dw,hfd];rw[F hn];rfl
   rw[hm];have⟨K2,u1,u2,u3⟩:=Dz M (by rw[t1.base];exact hb) h C d bC hd (r:=H.next) (r':=H.next+1) (by omega) (by(repeat rw[aB (by omega)]);first|exact k0|exact k1|exact k2|rw[aj]) (by(repeat rw[aB (by omega)]);first|exact k0|exact k1|exact k2|rw[aj]);refine⟨K2,?_,u2,t1.trans u3⟩;simp only[Nat.reduceLT,xq_,QY,aC (bH d),d1,ef,z1,d7,hn];exact u1
def BJ {K:ah}{ls:Lcl}(L:Loc b K g ls)(hb:K.base<=b)(h:g q=ZC (dD ca))(C:COk ca)(d:bW)(bC:Int)(hd:d.data.length<1000000000){r r':Nat}(k:ls r=ZC d.av)(k1:ls r'=ZC zD9):
  ∃e H',lda 9 (.ref r 0 0) K=ZC (.agg d.av,K)/\cl 219 [.agg d.av,I bC,.ref q 0 0] K=ZC (.agg (dw d bC ca).2.av,e)/\st 9 (.ref r' 0 0) (.agg (dw d bC ca).2.av) e=ZC (aX,H')/\
   lda 9 (.ref r' 0 0) H'=ZC (.agg (dw d bC ca).2.av,H')/\Good b H' (upd g q (dD (dw d bC ca).1))/\Step b K H':=by
 have⟨e,m,o,j⟩:=alz L.good hb (L.obj h) C d bC hd;have M:=L.call h o;have⟨p,u,v,w,y⟩:=M.whole (by rw[j.base];exact hb) k1 (n:=9) (vs:=(dw d bC ca).2.av) W W J (bH _);exact⟨e,p,L.lda k (i:=0) (n:=9) (ys:=d.av) W W J,m,u,v,w.out,j.trans y⟩
def afS(G:Good b H g)(hb:H.base<=b)(h:g q=ZC (dD ca))(C:COk ca)(d:bW)(bC:Int)(p:Pkt)(hd:d.data.length<1000000000)(hp:p.data.length<1000000000):
  ∃H',cl 185 [.agg d.av,I bC,.ref q 0 0,.agg p.av] H=ZC (uH (dY d bC ca p),H')/\Good b H' (upd g q (dD (dY d bC ca p).1))/\Step b H H':=by
 refine kN W W (apF _ _ _ _ _ _) ?_;have⟨ls,L,k0,k1,k2,s⟩:=vM G d p;have d0:=L.ld k0 (i:=0) (v:=I d.aW) W;have d1:=L.ld k0 (i:=1) (v:=I d.ak) W;have dA:=L.lda k0 (i:=0) (n:=9) (ys:=d.av) W W (by decide);have pA:=L.lda k1 (i:=0) (n:=9) (ys:=p.av) W W (by decide);have hf:=λH=>Vl H d p;have ez:bd 73 []=ZC (.agg zD9):=by simp only[xq_,aaA,jf,dX]
 have hbK:(((H.new (.blk 0 73 d.av)).new (.blk 0 81 p.av)).new (.blk 0 73 zD9)).base<=b:=by rw[s.base];exact hb
 have⟨Kz,z1,z2,z3,z4⟩:=L.whole hbK k2 (n:=9) (vs:=zD9) W W (by decide) W;have zu:Good b Kz (upd g q (dD ca)):=by rw[fP h];exact z3.out
 by_cases h1:d.aW≠2∨d.fits p=ZV
 ·have hm:dY d bC ca p=(ca,.zero,ZV):=by simp only[dY];rw[y h1];rfl
  rw[hm];refine⟨Kz,?_,zu,s.trans z4⟩;by_cases hk:d.aW=2
  ·have hff:d.fits p=false:=h1.resolve_left (λh=>h hk);rw[hk]at d0;simp only[Nat.reduceLT,xq_,Bg,aC (bH d),aC (aV p),d0,dA,pA,hf,hff,Bool.not_true,Bool.not_false,ez,z1,z2,uH,lU]
  ·simp only[Nat.reduceLT,xq_,Bg,aC (bH d),aC (aV p),d0,hk,Bool.not_false,ez,z1,z2,uH,lU]
 ·have hk:d.aW=2:=zar λh=>h1 (.inl h);have hff:d.fits p=true:=by cases hx:d.fits p <;> simp_all
  rw[hk]at d0;have ef:=nI L.good (L.obj h) C.len C.dat d.ak;simp only[jG]at ef;have LE:=L.newL (ty:=100) (xs:=zE6) (r:=H.next+1+1+1) W (by rw[eu,eu,eu]);have sE:Step b H _:=s.trans (Step.new (.blk 0 100 zE6) L.good.1);have⟨KE,x1,x2,M,x4⟩:=LE.whole (by rw[sE.base];exact hb) (r:=H.next+1+1+1) (xs:=zE6) (by(repeat rw[aB (by omega)]);first|exact k0|exact k1|exact k2|rw[aj]) (n:=6) (vs:=((ca.find d.ak).getD .zero).av) W W (by decide) (jR _);have t1:=sE.trans x4;have d3:=M.ld (r:=H.next) (xs:=d.av) (i:=3) (v:=I d.step) (by(repeat rw[aB (by omega)]);first|exact k0|exact k1|exact k2|rw[aj]) W;have hbE:KE.base<=b:=by rw[t1.base];exact hb
  have e5:=M.ld (r:=H.next+1+1+1) (i:=5) (v:=dat ((ca.find d.ak).getD .zero).data) (by(repeat rw[aB (by omega)]);first|exact k0|exact k1|exact k2|rw[aj]) W;have hown:((ca.find d.ak).getD .zero).data.length<1000000000:=by
   cases hx:ca.find d.ak with
   |none=>exact(by decide:([]:Q Int).length<1000000000)
   |some own=>exact C.dat own (List.mem_of_find?_eq_some hx)
  have e2:=λH=>kC H p.data hp;by_cases s1:d.step=1
  ·rw[s1]at d3;have p6:=M.ld (r:=H.next+1) (xs:=p.av) (i:=6) (v:=I p.state) (by(repeat rw[aB (by omega)]);first|exact k0|exact k1|exact k2|rw[aj]) W;have p5:=M.ld (r:=H.next+1) (xs:=p.av) (i:=5) (v:=I p.ptr) (by(repeat rw[aB (by omega)]);first|exact k0|exact k1|exact k2|rw[aj]) W;have p8:=M.ld (r:=H.next+1) (xs:=p.av) (i:=8) (v:=dat p.data) (by(repeat rw[aB (by omega)]);first|exact k0|exact k1|exact k2|rw[aj]) W;have⟨K2,u2,M2,w2⟩:=M.st hbE (r:=H.next) (xs:=d.av) (by(repeat rw[aB (by omega)]);first|exact k0|exact k1|exact k2|rw[aj]) (i:=4) (v:=I p.state) (by simp[bW.av]) dU;have t2:=t1.trans w2;have⟨K3,u3,M3,w3⟩:=M2.st (by rw[t2.base];exact hb) (r:=H.next) aj (i:=5) (v:=I p.ptr) (by simp[bW.av]) dU;have t3:=t2.trans w3;have⟨K4,u4,M4,w4⟩:=M3.st (by rw[t3.base];exact hb) (r:=H.next) aj (i:=8) (v:=I p.ptr) (by simp[bW.av]) dU;have t4:=t3.trans w4;have⟨K5,u5,M5,w5⟩:=M4.st (by rw[t4.base];exact hb) (r:=H.next) aj (i:=6) (v:=dat p.data) (by simp[bW.av]) sU;have t5:=t4.trans w5;have c1:∀{β:Type} (k:Z6 β),ck (bT (.ref (H.next+1) 0 5)) KE K2 k=k:=λk=>wu (oU u2 (by omega));have c2:∀{β:Type} (k:Z6 β),ck (bT (.ref (H.next+1) 0 5)) K2 K3 k=k:=λk=>wu (oU u3 (by omega));cases hx:ca.find d.ak with
   |none=>
    have hm:dY d bC ca p=((dw { d with state:=p.state,head:=p.ptr,told:=p.ptr,data:=p.data,next:=p.ptr } bC ca).1,(dw { d with state:=p.state,head:=p.ptr,told:=p.ptr,data:=p.data,next:=p.ptr } bC ca).2,Z0):=by
     simp only[dY,hx];rw[F h1,y s1]
    rw[hm];rw[hx]at ef x1;simp only[Option.isSome_none]at ef;have n5:=M5.ld (r:=H.next) aj (i:=5) (v:=I p.ptr) W;have⟨K6,u6,M6,w6⟩:=M5.st (by rw[t5.base];exact hb) (r:=H.next) aj (i:=7) (v:=I p.ptr) (by simp[bW.av]) dU;have t6:=t5.trans w6;have⟨K7,K8,v1,v2,v3,v4,v5,v6⟩:=BJ M6 (by rw[t6.base];exact hb) h C { d with state:=p.state,head:=p.ptr,told:=p.ptr,data:=p.data,next:=p.ptr } bC hp (r:=H.next) (r':=H.next+1+1) (by rw[aj];rfl) (by(repeat rw[aB (by omega)]);first|exact k0|exact k1|exact k2|rw[aj]);refine⟨K8,?_,v5,t6.trans v6⟩;simp only[Nat.reduceLT,Int.reduceEq,xq_,Bg,aC (bH d),aC (aV p),d0,dA,pA,hf,hff,Bool.not_true,d1,ef,x1,d3,p6,p5,p8,e2,u2,u3,u4,u5,c1,c2,FN,n5,u6,v1,v2,v3,v4,uH]
   |some own=>
    have hm:dY d bC ca p=((dw { d with state:=p.state,head:=p.ptr,told:=p.ptr,data:=own.data,next:=p.ptr } bC ca).1,(dw { d with state:=p.state,head:=p.ptr,told:=p.ptr,data:=own.data,next:=p.ptr } bC ca).2,Z0):=by
     simp only[dY,hx];rw[F h1,y s1]
    rw[hm];rw[hx]at ef x1 e5;simp only[Option.isSome_some,Option.getD_some]at ef x1 e5;have e5':=M5.ld (r:=H.next+1+1+1) (i:=5) (v:=dat ((ca.find d.ak).getD .zero).data) (by(repeat rw[aB (by omega)]);first|exact k0|exact k1|exact k2|rw[aj]) W;rw[hx]at e5';simp only[Option.getD_some]at e5';have⟨K5',u5',M5',w5'⟩:=M5.st (by rw[t5.base];exact hb) (r:=H.next) aj (i:=6) (v:=dat own.data) (by simp[bW.av]) sU;have t5':=t5.trans w5';have n5:=M5'.ld (r:=H.next) aj (i:=5) (v:=I p.ptr) W;have⟨K6,u6,M6,w6⟩:=M5'.st (by rw[t5'.base];exact hb) (r:=H.next) aj (i:=7) (v:=I p.ptr) (by simp[bW.av]) dU;have t6:=t5'.trans w6;have⟨K7,K8,v1,v2,v3,v4,v5,v6⟩:=BJ M6 (by rw[t6.base];exact hb) h C { d with state:=p.state,head:=p.ptr,told:=p.ptr,data:=own.data,next:=p.ptr } bC (C.dat own (List.mem_of_find?_eq_some hx)) (r:=H.next) (r':=H.next+1+1) (by rw[aj];rfl) (by(repeat rw[aB (by omega)]);first|exact k0|exact k1|exact k2|rw[aj]);refine⟨K8,?_,v5,t6.trans v6⟩;simp only[Nat.reduceLT,Int.reduceEq,xq_,Bg,aC (bH d),aC (aV p),d0,dA,pA,hf,hff,Bool.not_true,d1,ef,x1,d3,p6,p5,p8,e2,u2,u3,u4,u5,c1,c2,e5',u5',FN,n5,u6,v1,v2,v3,v4,uH]
  ·by_cases s3:d.step=3
   ·rw[s3]at d3;cases hx:ca.find d.ak with
    |none=>
     have hm:dY d bC ca p=((dw { d with data:=p.data,next:=p.ptr } bC ca).1,(dw { d with data:=p.data,next:=p.ptr } bC ca).2,Z0):=by
      simp only[dY,hx];rw[F h1,F s1,y s3]
     rw[hm];rw[hx]at ef x1;simp only[Option.isSome_none]at ef;have p8:=M.ld (r:=H.next+1) (xs:=p.av) (i:=8) (v:=dat p.data) (by(repeat rw[aB (by omega)]);first|exact k0|exact k1|exact k2|rw[aj]) W;have⟨K5,u5,M5,w5⟩:=M.st hbE (r:=H.next) (xs:=d.av) (by(repeat rw[aB (by omega)]);first|exact k0|exact k1|exact k2|rw[aj]) (i:=6) (v:=dat p.data) (by simp[bW.av]) sU;have t5:=t1.trans w5;have p5:=M5.ld (r:=H.next+1) (xs:=p.av) (i:=5) (v:=I p.ptr) (by(repeat rw[aB (by omega)]);first|exact k0|exact k1|exact k2|rw[aj]) W;have⟨K6,u6,M6,w6⟩:=M5.st (by rw[t5.base];exact hb) (r:=H.next) aj (i:=7) (v:=I p.ptr) (by simp[bW.av]) dU;have t6:=t5.trans w6;have⟨K7,K8,v1,v2,v3,v4,v5,v6⟩:=BJ M6 (by rw[t6.base];exact hb) h C { d with data:=p.data,next:=p.ptr } bC hp (r:=H.next) (r':=H.next+1+1) (by rw[aj];rfl) (by(repeat rw[aB (by omega)]);first|exact k0|exact k1|exact k2|rw[aj]);refine⟨K8,?_,v5,t6.trans v6⟩;simp only[Nat.reduceLT,Int.reduceEq,xq_,Bg,aC (bH d),aC (aV p),d0,dA,pA,hf,hff,Bool.not_true,Bool.not_false,d1,ef,x1,d3,p5,p8,e2,u5,FP,u6,v1,v2,v3,v4,uH]
    |some own=>
     have hm:dY d bC ca p=((dw { d with data:=d.data,next:=p.ptr } bC ca).1,(dw { d with data:=d.data,next:=p.ptr } bC ca).2,Z0):=by
      simp only[dY,hx];rw[F h1,F s1,y s3]
     rw[hm];rw[hx]at ef x1;simp only[Option.isSome_some,Option.getD_some]at ef x1;have p5:=M.ld (r:=H.next+1) (xs:=p.av) (i:=5) (v:=I p.ptr) (by(repeat rw[aB (by omega)]);first|exact k0|exact k1|exact k2|rw[aj]) W;have⟨K6,u6,M6,w6⟩:=M.st hbE (r:=H.next) (xs:=d.av) (by(repeat rw[aB (by omega)]);first|exact k0|exact k1|exact k2|rw[aj]) (i:=7) (v:=I p.ptr) (by simp[bW.av]) dU;have t6:=t1.trans w6;have⟨K7,K8,v1,v2,v3,v4,v5,v6⟩:=BJ M6 (by rw[t6.base];exact hb) h C { d with data:=d.data,next:=p.ptr } bC hd (r:=H.next) (r':=H.next+1+1) (by rw[aj];rfl) (by(repeat rw[aB (by omega)]);first|exact k0|exact k1|exact k2|rw[aj]);refine⟨K8,?_,v5,t6.trans v6⟩;simp only[Nat.reduceLT,Int.reduceEq,xq_,Bg,aC (bH d),aC (aV p),d0,dA,pA,hf,hff,Bool.not_true,d1,ef,x1,d3,p5,FP,u6,v1,v2,v3,v4,uH]
   ·by_cases s6:d.step=6
    ·have hm:dY d bC ca p=(ca,{ d with step:=0 },Z0):=by simp only[dY];rw[F h1,F s1,F s3,y s6]
     rw[hm];have⟨K1,a1,M1,a3⟩:=M.st hbE (r:=H.next) (xs:=d.av) (by(repeat rw[aB (by omega)]);first|exact k0|exact k1|exact k2|rw[aj]) (i:=3) (v:=I 0) (by simp[bW.av]) dU;have dB:=M1.lda aj (i:=0) (n:=9) (ys:=({ d with step:=0 }:bW).av) W W (by decide);have⟨K2,u1,u2,u3,u4⟩:=M1.whole (by rw[a3.base];exact hbE) (r:=H.next+1+1) (xs:=zD9) (by(repeat rw[aB (by omega)]);first|exact k0|exact k1|exact k2|rw[aj]) (n:=9) (vs:=({ d with step:=0 }:bW).av) W W (by decide) (bH _);refine⟨K2,?_,by rw[fP h];exact u3.out,(t1.trans a3).trans u4⟩;rw[s6]at d3;simp only[Nat.reduceLT,Int.reduceEq,xq_,Bg,aC (bH d),aC (aV p),d0,dA,pA,hf,hff,Bool.not_true,d1,ef,x1,d3,a1,dB,u1,u2,uH]
    ·have hm:dY d bC ca p=(ca,.zero,ZV):=by simp only[dY];rw[F h1,F s1,F s3,F s6];rfl
     rw[hm];have⟨K2,u1,u2,u3,u4⟩:=M.whole hbE (r:=H.next+1+1) (xs:=zD9) (by(repeat rw[aB (by omega)]);first|exact k0|exact k1|exact k2|rw[aj]) (n:=9) (vs:=zD9) W W (by decide) W;refine⟨K2,?_,by rw[fP h];exact u3.out,t1.trans u4⟩;simp only[Nat.reduceLT,xq_,Bg,aC (bH d),aC (aV p),d0,dA,pA,hf,hff,Bool.not_true,d1,ef,x1,d3,s1,s3,s6,ez,u1,u2,uH,lU]
end
section
variable {b:Nat}{H:ah}{g:bG}{q:Nat}{ca:Cache}
def Loc.ext {K K':ah}{ls:Lcl}(L:Loc b K g ls)(M:Made K K' lH):Loc b K' g ls:=⟨L.good.ext M.next M.same,L.free⟩
def aq7(G:Good b H g)(hb:H.base<=b)(h:g q=ZC (dD ca))(C:COk ca)(d:bW)(head:Int):
  ∃H',cl 221 [.agg d.av,.ref q 0 0,I head] H=ZC (.agg (gX d ca head).2.1.av,H')/\Good b H' (upd g q (dD (gX d ca head).1))/\Step b H H':=by
 refine kN W W (aqe _ _ _ _ _) ?_;have L1:=(Loc.of G).newL (ty:=73) (xs:=d.av) (r:=H.next) (bH d) W;have L2:=L1.newL (ty:=73) (xs:=zD9) (r:=H.next+1) W (by rw[eu]);have s2:Step b H _:=(Step.new (.blk 0 73 d.av) G.1).trans (Step.new (.blk 0 73 zD9) L1.good.1);have d1:=L2.ld (r:=H.next) (i:=1) (v:=I d.ak) (by(repeat rw[aB (by omega)]);rw[aj]) W;have⟨K1,a1,a2,a3⟩:=Je L2.good (by rw[s2.base];exact hb) (L2.obj h) C.len C.dat d.ak;have M1:=L2.call h a2;have t1:=s2.trans a3;have⟨K2,u2,M2,w2⟩:=M1.st (by rw[t1.base];exact hb) (r:=H.next) (xs:=d.av) (by(repeat rw[aB (by omega)]);rw[aj]) (i:=3) (v:=I 6) (by simp[bW.av]) dU;have t2:=t1.trans w2;have⟨K3,u3,M3,w3⟩:=M2.st (by rw[t2.base];exact hb) (r:=H.next) aj (i:=4) (v:=I 1) (by simp[bW.av]) dU;have t3:=t2.trans w3;have⟨K4,u4,M4,w4⟩:=M3.st (by rw[t3.base];exact hb) (r:=H.next) aj (i:=5) (v:=I head) (by simp[bW.av]) dU;have t4:=t3.trans w4;have⟨K5,u5,M5,w5⟩:=M4.st (by rw[t4.base];exact hb) (r:=H.next) aj (i:=6) (v:=zN) (by simp[bW.av]) qG;have t5:=t4.trans w5;have f1:=M5.lda (r:=H.next) aj (i:=0) (n:=9) (ys:=(gX d ca head).2.1.av) (by simp only[gX,bW.av,Ep];rfl) W (by decide);have⟨K7,u7,v7,M7,w7⟩:=M5.whole (by rw[t5.base];exact hb) (r:=H.next+1) (xs:=zD9) (by(repeat rw[aB (by omega)]);rw[aj]) (n:=9) (vs:=(gX d ca head).2.1.av) W W (by decide) (bH _);refine⟨K7,?_,M7.out,t5.trans w7⟩;simp only[Nat.reduceLT,xq_,aja,aC (bH d),d1,a1,u2,u3,u4,u5,f1,u7,v7]
abbrev lnk(f bk:Int):List AV:=[I f,I bk]
def ac6(H:ah)(f bk:Int):∃H',cl 238 [.agg (lnk f bk)] H=ZC (B (u (bk=-1)),H')/\(H.base<=H.next->Made H H' lH):=by
 refine⟨H.new (.blk 0 98 (lnk f bk)),bg W W (aqu _ _ _ ?_),λhb=>(Made.refl hb).new _⟩;simp only[Nat.reduceLT,Int.reduceNeg,xq_,hq_,aji,aC]
def alA(H:ah)(f bk:Int):∃H',cl 243 [.agg (lnk f bk)] H=ZC (B (u (f=-1)),H')/\(H.base<=H.next->Made H H' lH):=by
 refine⟨H.new (.blk 0 98 (lnk f bk)),bg W W (aqA _ _ _ ?_),λhb=>(Made.refl hb).new _⟩;simp only[Nat.reduceLT,Int.reduceNeg,xq_,hq_,ajk,aC]
def alB(H:ah)(hb0:H.base<=H.next)(f bk:Int):∃H',cl 237 [.agg (lnk f bk)] H=ZC (B (u (bk=-1/\f=-1)),H')/\Made H H' lH:=by
 let H1:=H.new (.blk 0 98 (lnk f bk));have g1:H1.get H.next=.blk 0 98 (lnk f bk):=aK W
 have l1:lda 2 (.ref H.next 0 0) H1=ZC (.agg (lnk f bk),H1):=(iE (off:=0) (n:=2) g1 (Nat.le_refl 2)).trans W;have⟨H2,e1,M1⟩:=ac6 H1 f bk;by_cases h:bk=-1
 ·have hd:u (bk=-1)=true:=zah h;rw[hd]at e1;have hb:H1.base<=H1.next:=by simp only[H1,iO,eu];omega
  have M:=M1 hb;have l2:lda 2 (.ref H.next 0 0) H2=ZC (.agg (lnk f bk),H2):=(iE (g:=0) (ty:=98) (off:=0) (n:=2) (xs:=lnk f bk) (by rw[M.same _ (by simp only[H1,eu];omega)];exact g1) (Nat.le_refl 2)).trans W;have⟨H3,e2,M2⟩:=alA H2 f bk;have M3:=M2 (by rw[M.base];exact Nat.le_trans hb M.next);have M4:Made H1 H3 lH:=⟨Nat.le_trans M.next M3.next,M3.base.trans M.base,λr hr=>by rw[M3.same r (Nat.lt_of_lt_of_le hr M.next),M.same r hr],Good.empty' (Nat.le_trans M.next M3.next)⟩
  refine⟨H3,bg W W (ajh _ _ _ ?_),M4.xu⟩;simp only[H1]at l1 e1;have hda:u (bk=-1/\f=-1)=u (f=-1):=by simp[h]
  rw[hda];simp only[Nat.reduceLT,Int.reduceNeg,xq_,abV,aC (show(lnk f bk).all AV.aU=Z0 from W),l1,e1,l2,e2]
 ·have hd:u (bk=-1)=false:=zam h;rw[hd]at e1;have hda:u (bk=-1/\f=-1)=false:=by simp[h]
  refine⟨H2,bg W W (ajh _ _ _ ?_),(M1 (by simp only[H1,iO,eu];omega)).xu⟩;simp only[H1]at l1 e1;rw[hda];simp only[Nat.reduceLT,xq_,abV,aC (show(lnk f bk).all AV.aU=Z0 from W),l1,e1]
end
section
variable {b:Nat}{H:ah}{g:bG}{q:Nat}{ca:Cache}
def lJ(d:bW)(c:Cache)(p:Pkt):Cache × bW:=
 let d:bW:={ d with state:=p.state,head:=p.ptr,told:=p.ptr,data:=[],step:=6 }
 match c.find d.ak with
 |none=>(c,d)
 |some e=>
  if e.back=-1/\e.fwd=-1 then(c.drop d.ak,{ d with state:=0,head:=-1,data:=if e.bJ then e.data else [] })
  else if e.back=-1 then(c,{ d with head:=-1,next:=e.fwd,step:=5 })
  else(c,{ d with head:=e.back,next:=e.fwd,step:=4 })
def Y3(G:Good b H g)(hb:H.base<=b)(h:g q=ZC (dD ca))(C:COk ca)(d:bW)(p:Pkt):
  ∃H',cl 220 [.agg d.av,.ref q 0 0,.agg p.av] H=ZC (.agg (lJ d ca p).2.av,H')/\Good b H' (upd g q (dD (lJ d ca p).1))/\Step b H H':=by
 refine kN W W (aqd _ _ _ _ _) ?_;have⟨ls,L,k0,k1,k2,s⟩:=vM G d p;have hbK:(((H.new (.blk 0 73 d.av)).new (.blk 0 81 p.av)).new (.blk 0 73 zD9)).base<=b:=by rw[s.base];exact hb
 have p6:=L.ld k1 (i:=6) (v:=I p.state) W;have p5:=L.ld k1 (i:=5) (v:=I p.ptr) W;have⟨K2,u2,M2,w2⟩:=L.st hbK (r:=H.next) k0 (i:=4) (v:=I p.state) (by simp[bW.av]) dU;have t2:=s.trans w2;have⟨K3,u3,M3,w3⟩:=M2.st (by rw[t2.base];exact hb) (r:=H.next) aj (i:=5) (v:=I p.ptr) (by simp[bW.av]) dU;have t3:=t2.trans w3;have⟨K4,u4,M4,w4⟩:=M3.st (by rw[t3.base];exact hb) (r:=H.next) aj (i:=8) (v:=I p.ptr) (by simp[bW.av]) dU;have t4:=t3.trans w4;have⟨K5,u5,M5,w5⟩:=M4.st (by rw[t4.base];exact hb) (r:=H.next) aj (i:=6) (v:=zN) (by simp[bW.av]) qG;have t5:=t4.trans w5;have c1:∀{β:Type} (k:M β),ck (bT (.ref (H.next+1) 0 5)) (((H.new (.blk 0 73 d.av)).new (.blk 0 81 p.av)).new (.blk 0 73 zD9)) K2 k=k:=λk=>wu (oU u2 (by omega));have c2:∀{β:Type} (k:M β),ck (bT (.ref (H.next+1) 0 5)) K2 K3 k=k:=λk=>wu (oU u3 (by omega));have⟨K6,u6,M6,w6⟩:=M5.st (by rw[t5.base];exact hb) (r:=H.next) aj (i:=3) (v:=I 6) (by simp[bW.av]) dU;have t6:=t5.trans w6;let d2:bW:={ d with state:=p.state,head:=p.ptr,told:=p.ptr,data:=[],step:=6 }
 have e2:(((((d.av.set 4 (I p.state)).set 5 (I p.ptr)).set 8 (I p.ptr)).set 6 zN).set 3 (I 6))=d2.av:=by simp only[d2,bW.av,Ep];rfl
 rw[e2]at M6;have k0':∀(l:Lcl) (x:Q AV),iK l H.next x H.next=ZC x:=λ_ _=>aj
 have d1:=M6.ld (r:=H.next) aj (i:=1) (v:=I d.ak) W;have ef:=nI M6.good (M6.obj h) C.len C.dat d.ak;simp only[jG]at ef;have LE:=M6.newL (ty:=100) (xs:=zE6) (r:=K6.next) W W;have z2:iK (iK (iK (iK (iK ls H.next (d.av.set 4 (I p.state))) H.next ((d.av.set 4 (I p.state)).set 5 (I p.ptr))) H.next (((d.av.set 4 (I p.state)).set 5 (I p.ptr)).set 8 (I p.ptr))) H.next ((((d.av.set 4 (I p.state)).set 5 (I p.ptr)).set 8 (I p.ptr)).set 6 zN)) H.next d2.av (H.next+1+1)=ZC zD9:=by
  rw[aB (by omega),aB (by omega),aB (by omega),aB (by omega),aB (by omega)];exact k2
 have n6:H.next+1+1<K6.next:=M6.good.lt (pU (g:=g) z2)
 have⟨KE,x1,x2,ME,x4⟩:=LE.whole (by rw[iO,t6.base];exact hb) (r:=K6.next) aj (n:=6) (vs:=((ca.find d.ak).getD .zero).av) W W (by decide) (jR _);have tE:=(t6.trans (Step.new (.blk 0 100 zE6) M6.good.1)).trans x4;have hbE:KE.base<=b:=by rw[tE.base];exact hb
 generalize hls:iK (iK (iK (iK (iK (iK (iK ls H.next (d.av.set 4 (I p.state))) H.next ((d.av.set 4 (I p.state)).set 5 (I p.ptr))) H.next (((d.av.set 4 (I p.state)).set 5 (I p.ptr)).set 8 (I p.ptr))) H.next ((((d.av.set 4 (I p.state)).set 5 (I p.ptr)).set 8 (I p.ptr)).set 6 zN)) H.next d2.av) K6.next zE6) K6.next ((ca.find d.ak).getD .zero).av=lz at ME
 have y0:lz H.next=ZC d2.av:=by rw[<-hls,aB (by omega),aB (by omega),aj]
 have y2:lz (H.next+1+1)=ZC zD9:=by rw[<-hls,aB (by omega),aB (by omega)];exact z2
 have y3:lz K6.next=ZC ((ca.find d.ak).getD .zero).av:=by rw[<-hls,aj]
 have fin:∀{Kx:ah} {lx:Lcl} {gx:bG} (dx:bW),Loc b Kx gx lx->Kx.base<=b->lx H.next=ZC dx.av->lx (H.next+1+1)=ZC zD9->∃H',lda 9 (.ref H.next 0 0) Kx=ZC (.agg dx.av,Kx)/\st 9 (.ref (H.next+1+1) 0 0) (.agg dx.av) Kx=ZC (aX,H')/\lda 9 (.ref (H.next+1+1) 0 0) H'=ZC (.agg dx.av,H')/\Good b H' gx/\Step b Kx H':=λdx Lx hbx q0 q2=>by
  have⟨K',v1,v2,v3,v4⟩:=Lx.whole hbx q2 (n:=9) (vs:=dx.av) W W (by decide) (bH _);exact⟨K',Lx.lda q0 (i:=0) (n:=9) (ys:=dx.av) W W (by decide),v1,v2,v3.out,v4⟩
 cases hfd:ca.find d.ak with
 |none=>
  have hm:lJ d ca p=(ca,d2):=by simp only[lJ,hfd,d2]
  rw[hm];rw[hfd]at ef x1;simp only[Option.isSome_none]at ef;have⟨H',f1,f2,f3,f4,f5⟩:=fin d2 ME hbE y0 y2;refine⟨H',?_,by rw[fP h];exact f4,tE.trans f5⟩;simp only[Nat.reduceLT,Int.reduceNeg,xq_,Ld,aC (bH d),aC (aV p),p6,p5,u2,u3,u4,u5,c1,c2,u6,d1,ef,x1,Bool.not_false,f1,f2,f3]
 |some e=>
  rw[hfd]at ef x1 y3;simp only[Option.isSome_some,Option.getD_some]at ef x1 y3;have l2:=ME.lda y3 (i:=0) (n:=2) (ys:=lnk e.fwd e.back) W W (by decide);have⟨KO,o1,o2⟩:=alB KE (Nat.le_trans hbE ME.good.1) e.fwd e.back;have MO:=ME.ext o2;have hbO:KO.base<=b:=by rw[o2.base];exact hbE
  have tO:Step b H KO:=tE.trans ⟨o2.base,o2.next,λr hr=>o2.same r (Nat.lt_of_lt_of_le hr ME.good.1)⟩;by_cases h1:e.back=-1/\e.fwd=-1
  ·have dl:=MO.ld y0 (i:=1) (v:=I d.ak) W;have⟨K7,a1,a2,a3⟩:=Je MO.good hbO (MO.obj h) C.len C.dat d.ak;have M7:=MO.call h a2;have t7:=tO.trans a3;have⟨K8,u8,M8,w8⟩:=M7.st (by rw[t7.base];exact hb) y0 (i:=4) (v:=I 0) (by simp[bW.av]) dU;have t8:=t7.trans w8;have⟨K9,u9,M9,w9⟩:=M8.st (by rw[t8.base];exact hb) (r:=H.next) aj (i:=5) (v:=I (-1)) (by simp[bW.av]) dU;have t9:=t8.trans w9;have y3':iK (iK lz H.next (d2.av.set 4 (I 0))) H.next ((d2.av.set 4 (I 0)).set 5 (I (-1))) K6.next=ZC e.av:=by rw[aB (by omega),aB (by omega)];exact y3
   have y2':iK (iK lz H.next (d2.av.set 4 (I 0))) H.next ((d2.av.set 4 (I 0)).set 5 (I (-1))) (H.next+1+1)=ZC zD9:=by rw[aB (by omega),aB (by omega)];exact y2
   have ed:=M9.ld y3' (i:=4) (v:=B e.bJ) W;rw[zah h1]at o1;cases hdy:e.bJ with
   |false=>
    have hm:lJ d ca p=(ca.drop d.ak,{ d2 with state:=0,head:=-1,data:=[] }):=by
     simp only[lJ,hfd,d2];rw[y h1,hdy];rfl
    rw[hm];rw[hdy]at ed;have⟨H',f1,f2,f3,f4,f5⟩:=fin { d2 with state:=0,head:=-1,data:=[] } M9 (by rw[t9.base];exact hb) (by rw[aj];rfl) y2';refine⟨H',?_,f4,t9.trans f5⟩;simp only[Nat.reduceLT,Int.reduceNeg,xq_,Ld,rY,aC (bH d),aC (aV p),p6,p5,u2,u3,u4,u5,c1,c2,u6,d1,ef,x1,Bool.not_true,l2,o1,dl,a1,u8,u9,ed,f1,f2,f3]
   |true=>
    have hm:lJ d ca p=(ca.drop d.ak,{ d2 with state:=0,head:=-1,data:=e.data }):=by
     simp only[lJ,hfd,d2];rw[y h1,hdy];rfl
    rw[hm];rw[hdy]at ed;have ex:=M9.ld y3' (i:=5) (v:=dat e.data) W;have⟨K10,u10,M10,w10⟩:=M9.st (by rw[t9.base];exact hb) (r:=H.next) aj (i:=6) (v:=dat e.data) (by simp[bW.av]) sU;have t10:=t9.trans w10;have⟨H',f1,f2,f3,f4,f5⟩:=fin { d2 with state:=0,head:=-1,data:=e.data } M10 (by rw[t10.base];exact hb) (by rw[aj];rfl) (by rw[aB (by omega)];exact y2');refine⟨H',?_,f4,t10.trans f5⟩;simp only[Nat.reduceLT,Int.reduceNeg,xq_,Ld,rY,aC (bH d),aC (aV p),p6,p5,u2,u3,u4,u5,c1,c2,u6,d1,ef,x1,Bool.not_true,l2,o1,dl,a1,u8,u9,ed,ex,u10,f1,f2,f3]
  ·have l2':=MO.lda y3 (i:=0) (n:=2) (ys:=lnk e.fwd e.back) W W (by decide);have⟨KH,q1,q2'⟩:=ac6 KO e.fwd e.back;have q2:=q2' (Nat.le_trans hbO MO.good.1);have MH:=MO.ext q2;have hbH:KH.base<=b:=by rw[q2.base];exact hbO
   have tH:Step b H KH:=tO.trans ⟨q2.base,q2.next,λr hr=>q2.same r (Nat.lt_of_lt_of_le hr MO.good.1)⟩;rw[zam h1]at o1;have g0:=MH.ld y3 (i:=0) (v:=I e.fwd) W;have g1:=MH.ld y3 (i:=1) (v:=I e.back) W;by_cases h2:e.back=-1
   ·have hm:lJ d ca p=(ca,{ d2 with head:=-1,next:=e.fwd,step:=5 }):=by
     simp only[lJ,hfd,d2];rw[F h1,y h2]
    rw[hm];rw[zah h2]at q1;have⟨K8,u8,M8,w8⟩:=MH.st hbH y0 (i:=5) (v:=I (-1)) (by simp[bW.av]) dU;have t8:=tH.trans w8;have⟨K9,u9,M9,w9⟩:=M8.st (by rw[t8.base];exact hb) (r:=H.next) aj (i:=7) (v:=I e.fwd) (by simp[bW.av]) dU;have t9:=t8.trans w9;have⟨K10,u10,M10,w10⟩:=M9.st (by rw[t9.base];exact hb) (r:=H.next) aj (i:=3) (v:=I 5) (by simp[bW.av]) dU;have t10:=t9.trans w10;have c3:∀{β:Type} (k:M β),ck (bT (.ref K6.next 0 0)) KH K8 k=k:=λk=>wu (oU u8 (by omega));have⟨H',f1,f2,f3,f4,f5⟩:=fin { d2 with head:=-1,next:=e.fwd,step:=5 } M10 (by rw[t10.base];exact hb) (by rw[aj];rfl) (by rw[aB (by omega),aB (by omega),aB (by omega)];exact y2);refine⟨H',?_,by rw[fP h];exact f4,t10.trans f5⟩;simp only[Nat.reduceLT,Int.reduceNeg,xq_,Ld,rY,aC (bH d),aC (aV p),p6,p5,u2,u3,u4,u5,c1,c2,u6,d1,ef,x1,Bool.not_true,l2,o1,l2',q1,g0,u8,u9,u10,c3,f1,f2,f3]
   ·have hm:lJ d ca p=(ca,{ d2 with head:=e.back,next:=e.fwd,step:=4 }):=by
     simp only[lJ,hfd,d2];rw[F h1,F h2]
    rw[hm];rw[zam h2]at q1;have⟨K8,u8,M8,w8⟩:=MH.st hbH y0 (i:=5) (v:=I e.back) (by simp[bW.av]) dU;have t8:=tH.trans w8;have⟨K9,u9,M9,w9⟩:=M8.st (by rw[t8.base];exact hb) (r:=H.next) aj (i:=7) (v:=I e.fwd) (by simp[bW.av]) dU;have t9:=t8.trans w9;have⟨K10,u10,M10,w10⟩:=M9.st (by rw[t9.base];exact hb) (r:=H.next) aj (i:=3) (v:=I 4) (by simp[bW.av]) dU;have t10:=t9.trans w10;have c3:∀{β:Type} (k:M β),ck (bT (.ref K6.next 0 0)) KH K8 k=k:=λk=>wu (oU u8 (by omega));have⟨H',f1,f2,f3,f4,f5⟩:=fin { d2 with head:=e.back,next:=e.fwd,step:=4 } M10 (by rw[t10.base];exact hb) (by rw[aj];rfl) (by rw[aB (by omega),aB (by omega),aB (by omega)];exact y2);refine⟨H',?_,by rw[fP h];exact f4,t10.trans f5⟩;simp only[Nat.reduceLT,Int.reduceNeg,xq_,Ld,rY,aC (bH d),aC (aV p),p6,p5,u2,u3,u4,u5,c1,c2,u6,d1,ef,x1,Bool.not_true,l2,o1,l2',q1,g0,g1,u8,u9,u10,c3,f1,f2,f3]
end
section
variable {b:Nat}{H:ah}{g:bG}{q:Nat}{ca:Cache}
def alC(G:Good b H g)(hb:H.base<=b)(h:g q=ZC (dD ca))(C:COk ca)(d:bW)(p:Pkt)(nd:Int):
  ∃H',cl 186 [.agg d.av,I nd,.ref q 0 0,.agg p.av] H=ZC (uH (eP d ca p),H')/\Good b H' (upd g q (dD (eP d ca p).1))/\Step b H H':=by
 refine kN W W (apG _ _ _ _ _ _) ?_;have⟨ls,L,k0,k1,k2,s⟩:=vM G d p;have d0:=L.ld k0 (i:=0) (v:=I d.aW) W;have d3:=L.ld k0 (i:=3) (v:=I d.step) W;have dA:=L.lda k0 (i:=0) (n:=9) (ys:=d.av) W W (by decide);have pA:=L.lda k1 (i:=0) (n:=9) (ys:=p.av) W W (by decide);have hf:=λH=>Vl H d p;have ez:bd 73 []=ZC (.agg zD9):=by simp only[xq_,aaA,jf,dX]
 have hbK:(((H.new (.blk 0 73 d.av)).new (.blk 0 81 p.av)).new (.blk 0 73 zD9)).base<=b:=by rw[s.base];exact hb
 have⟨Kz,z1,z2,z3,z4⟩:=L.whole hbK k2 (n:=9) (vs:=zD9) W W (by decide) W;have zu:Good b Kz (upd g q (dD ca)):=by rw[fP h];exact z3.out
 have outs:∀head,∃K1 K2,cl 221 [.agg d.av,.ref q 0 0,I head] (((H.new (.blk 0 73 d.av)).new (.blk 0 81 p.av)).new (.blk 0 73 zD9))=ZC (.agg (gX d ca head).2.1.av,K1)/\
   st 9 (.ref (H.next+1+1) 0 0) (.agg (gX d ca head).2.1.av) K1=ZC (aX,K2)/\lda 9 (.ref (H.next+1+1) 0 0) K2=ZC (.agg (gX d ca head).2.1.av,K2)/\Good b K2 (upd g q (dD (gX d ca head).1))/\Step b H K2:=λhead=>by
  have⟨K1,a1,a2,a3⟩:=aq7 L.good hbK (L.obj h) C d head;have M:=L.call h a2;have⟨K2,u1,u2,u3,u4⟩:=M.whole (by rw[a3.base];exact hbK) k2 (n:=9) (vs:=(gX d ca head).2.1.av) W W (by decide) (bH _);exact⟨K1,K2,a1,u1,u2,u3.out,(s.trans a3).trans u4⟩
 have steps:∀k:Int,∃K1 K2,st 1 (.ref H.next 0 3) (I k) (((H.new (.blk 0 73 d.av)).new (.blk 0 81 p.av)).new (.blk 0 73 zD9))=ZC (aX,K1)/\lda 9 (.ref H.next 0 0) K1=ZC (.agg ({ d with step:=k }:bW).av,K1)/\
   st 9 (.ref (H.next+1+1) 0 0) (.agg ({ d with step:=k }:bW).av) K1=ZC (aX,K2)/\lda 9 (.ref (H.next+1+1) 0 0) K2=ZC (.agg ({ d with step:=k }:bW).av,K2)/\Good b K2 (upd g q (dD ca))/\Step b H K2:=λk=>by
  have⟨K1,a1,M,a3⟩:=L.st hbK k0 (i:=3) (v:=I k) (by simp[bW.av]) dU;have k2':iK ls H.next (d.av.set 3 (I k)) (H.next+1+1)=ZC zD9:=by rw[aB (by omega)];exact k2
  have dB:=M.lda aj (i:=0) (n:=9) (ys:=({ d with step:=k }:bW).av) W W (by decide);have⟨K2,u1,u2,u3,u4⟩:=M.whole (by rw[a3.base];exact hbK) k2' (n:=9) (vs:=({ d with step:=k }:bW).av) W W (by decide) (bH _);exact⟨K1,K2,a1,dB,u1,u2,by rw[fP h];exact u3.out,(s.trans a3).trans u4⟩
 have d7:=L.ld k0 (i:=7) (v:=I d.next) W;have d5:=L.ld k0 (i:=5) (v:=I d.head) W;have d8:=L.ld k0 (i:=8) (v:=I d.told) W;by_cases h1:d.aW≠3∨d.fits p=ZV
 ·have hm:eP d ca p=(ca,.zero,ZV):=by simp only[eP];rw[y h1];rfl
  rw[hm];refine⟨Kz,?_,zu,s.trans z4⟩;by_cases hk:d.aW=3
  ·have hff:d.fits p=false:=h1.resolve_left (λh=>h hk);rw[hk]at d0;simp only[Nat.reduceLT,Int.reduceNeg,xq_,yV,aC (bH d),aC (aV p),d0,dA,pA,hf,hff,Bool.not_true,Bool.not_false,ez,z1,z2,uH,lU]
  ·simp only[Nat.reduceLT,Int.reduceNeg,xq_,yV,aC (bH d),aC (aV p),d0,hk,Bool.not_false,ez,z1,z2,uH,lU]
 ·have hk:d.aW=3:=zar λh=>h1 (.inl h);have hff:d.fits p=true:=by cases hx:d.fits p <;> simp_all
  rw[hk]at d0;by_cases s1:d.step=1
  ·have hm:eP d ca p=((lJ d ca p).1,(lJ d ca p).2,Z0):=by
    simp only[eP,lJ];rw[F h1,y s1];cases ca.find d.ak with
    |none=>rfl
    |some e=>
     simp only;split
     ·rfl
     ·split <;> rfl
   rw[hm];rw[s1]at d3;have⟨K1,a1,a2,a3⟩:=Y3 L.good hbK (L.obj h) C d p;have M:=L.call h a2;have⟨K2,u1,u2,u3,u4⟩:=M.whole (by rw[a3.base];exact hbK) k2 (n:=9) (vs:=(lJ d ca p).2.av) W W (by decide) (bH _);refine⟨K2,?_,u3.out,(s.trans a3).trans u4⟩;simp only[Nat.reduceLT,Int.reduceEq,Int.reduceNeg,xq_,yV,aC (bH d),aC (aV p),d0,dA,pA,hf,hff,Bool.not_true,d3,a1,u1,u2,uH]
  ·by_cases s4:d.step=4
   ·rw[s4]at d3;by_cases hn:d.next=-1
    ·have hm:eP d ca p=gX d ca d.told:=by simp only[eP];rw[F h1,F s1,y s4,y hn]
     rw[hm];have⟨K1,K2,a1,u1,u2,u3,u4⟩:=outs d.told;refine⟨K2,?_,u3,u4⟩;have ht:(gX d ca d.told).2.2=true:=rfl;rw[hn]at d7;simp only[Nat.reduceLT,Int.reduceEq,Int.reduceNeg,xq_,yV,aC (bH d),aC (aV p),d0,dA,pA,hf,hff,Bool.not_true,d3,d7,d8,a1,u1,u2,uH,ht]
    ·have hm:eP d ca p=(ca,{ d with step:=5 },Z0):=by simp only[eP];rw[F h1,F s1,y s4,F hn]
     rw[hm];have⟨K1,K2,a1,dB,u1,u2,u3,u4⟩:=steps 5;refine⟨K2,?_,u3,u4⟩;simp only[Nat.reduceLT,Int.reduceEq,Int.reduceNeg,xq_,yV,aC (bH d),aC (aV p),d0,dA,pA,hf,hff,Bool.not_true,d3,d7,hn,a1,dB,u1,u2,uH]
   ·by_cases s5:d.step=5
    ·rw[s5]at d3;by_cases hn:d.head=-1
     ·have hm:eP d ca p=gX d ca d.next:=by simp only[eP];rw[F h1,F s1,F s4,y s5,y hn]
      rw[hm];have⟨K1,K2,a1,u1,u2,u3,u4⟩:=outs d.next
      refine⟨K2,?_,u3,u4⟩;have ht:(gX d ca d.next).2.2=true:=rfl;rw[hn]at d5;simp only[Nat.reduceLT,Int.reduceEq,Int.reduceNeg,xq_,yV,aC (bH d),aC (aV p),d0,dA,pA,hf,hff,Bool.not_true,d3,d5,d7,a1,u1,u2,uH,ht]
     ·have hm:eP d ca p=gX d ca d.told:=by simp only[eP];rw[F h1,F s1,F s4,y s5,F hn]
      rw[hm];have⟨K1,K2,a1,u1,u2,u3,u4⟩:=outs d.told;refine⟨K2,?_,u3,u4⟩;have ht:(gX d ca d.told).2.2=true:=rfl;simp only[Nat.reduceLT,Int.reduceEq,Int.reduceNeg,xq_,yV,aC (bH d),aC (aV p),d0,dA,pA,hf,hff,Bool.not_true,d3,d5,hn,d8,a1,u1,u2,uH,ht]
    ·by_cases s6:d.step=6
     ·have hm:eP d ca p=(ca,{ d with step:=0 },Z0):=by simp only[eP];rw[F h1,F s1,F s4,F s5,y s6]
      rw[hm];have⟨K1,K2,a1,dB,u1,u2,u3,u4⟩:=steps 0;refine⟨K2,?_,u3,u4⟩;rw[s6]at d3;simp only[Nat.reduceLT,Int.reduceEq,Int.reduceNeg,xq_,yV,aC (bH d),aC (aV p),d0,dA,pA,hf,hff,Bool.not_true,d3,a1,dB,u1,u2,uH]
     ·have hm:eP d ca p=(ca,.zero,ZV):=by simp only[eP];rw[F h1,F s1,F s4,F s5,F s6];rfl
      rw[hm];refine⟨Kz,?_,zu,s.trans z4⟩;simp only[Nat.reduceLT,Int.reduceNeg,xq_,yV,aC (bH d),aC (aV p),d0,dA,pA,hf,hff,Bool.not_true,d3,s1,s4,s5,s6,ez,z1,z2,uH,lU]
end
section
variable {b:Nat}{H:ah}{g:bG}{q:Nat}
def RI(G:Good b H g)(hb:H.base<=b){l:Q Evn}(h:g q=ZC (mM l))(w:l.length<1000000)(e:Evn):
  ∃x j H1 d,ld (.ref q 0 0) H=ZC (x,H)/\app 184 4 32 x (.sl H.next 0 0 4 1 1 Z0) (H.new (.blk 0 184 e.av))=ZC (j,H1)/\st 1 (.ref q 0 0) j H1=ZC (aX,d)/\Good b d (upd g q (mM (l++[e])))/\Step b H d:=by
 have⟨x,k,c⟩:=G.seq h (i:=0) W;have⟨j,H1,d,o,p,u,v⟩:=(G.new (.blk 0 184 e.av)).append (e:=184) (by_:=32) (n:=l.length) (by rw[iO];exact hb) h (i:=0) W J (dF oC l) (c.new _) (jZ (ex:=Z0) (n:=1) (m:=4) (l:=e.av) W) (zD e) (by unfold most;omega) (by unfold most;omega);refine⟨x,j,H1,d,k,o,p,?_,(Step.new _ G.1).trans v⟩;have:mM (l++[e])=(mM l).set 0 (.seq 4 (l.flatMap Evn.av++e.av)):=by simp[mM]
 rw[this];exact u
def Y4(G:Good b H g)(hb:H.base<=b){l:Q Evn}(h:g q=ZC (mM l))(d:l.length<1000000)(bC idx:Int):
  ∃H',cl 147 [.ref q 0 0,I bC,I idx] H=ZC (.tup [],H')/\Good b H' (upd g q (mM (l++[⟨bC,idx,ZV,0⟩])))/\Step b H H':=by
 have⟨x,p,H1,e,a0,i,j,k,n⟩:=RI G hb h d ⟨bC,idx,ZV,0⟩;refine⟨e,bg W W (apb _ _ _ _ _ ?_),k,n⟩;have o:bd 184 [(0,I bC),(1,I idx)]=ZC (.agg (Evn.mk bC idx ZV 0).av):=by
  simp only[xq_,ag8,jf,fO,aaC,Evn.av];rfl
 simp only[xq_,aiq,a0,o,Wp,Nat.one_mul,Nat.reduceLeDiff,jE (m:=4) (z:=[zI,zI,zB,zI]) (v:=.agg (Evn.mk bC idx ZV 0).av) W W (zD _),eU,i,j]
def afT(G:Good b H g)(hb:H.base<=b){l:Q Evn}(h:g q=ZC (mM l))(d:l.length<1000000)(bC idx v:Int):
  ∃H',cl 188 [.ref q 0 0,I bC,I idx,I v] H=ZC (.tup [],H')/\Good b H' (upd g q (mM (l++[⟨bC,idx,Z0,v⟩])))/\Step b H H':=by
 have⟨x,p,H1,e,a0,i,j,k,n⟩:=RI G hb h d ⟨bC,idx,Z0,v⟩;refine⟨e,bg W W (apH _ _ _ _ _ _ ?_),k,n⟩;have o:bd 184 [(0,I bC),(1,I idx),(2,B Z0),(3,I v)]=ZC (.agg (Evn.mk bC idx Z0 v).av):=by
  simp only[xq_,ag8,jf,fO,aaC,Evn.av];rfl
 simp only[xq_,aiT,a0,o,Wp,Nat.one_mul,Nat.reduceLeDiff,jE (m:=4) (z:=[zI,zI,zB,zI]) (v:=.agg (Evn.mk bC idx Z0 v).av) W W (zD _),eU,i,j]
end
section
variable {b:Nat}{H:ah}{g:bG}{q:Nat}
def ac7(G:Good b H g)(hb:H.base<=b){p:Proc}(h:g q=ZC (qZ p))(m:p.ops.length<1000)(n:p.bI.length<1000)(hv:p.bI.length<=p.ops.length):
  ∃v H',cl 146 [.ref q 0 0] H=ZC (v,H')/\Good b H' (upd g q (qZ p.AA))/\Step b H H':=by
 have e:=G.load h (i:=2) (x:=B p.fD) W;have k:=Xu G h m n;cases d:p.fD with
 |true=>
  have hm:p.AA=p:=by simp[Proc.AA,d]
  rw[hm];rw[d]at e;refine⟨I 6,H,bg W W (abz _ _ _ ?_),by rw[fP h];exact G,Step.refl _ _⟩;simp only[xq_,WR,e]
 |false=>
  rw[d]at e;by_cases j:p.left=0
  ·have hc:p.cur=none:=by
    unfold Proc.cur;unfold Proc.left at j;exact List.getElem?_eq_none V
   have hm:p.AA=p:=by simp[Proc.AA,hc]
   rw[hm];rw[j]at k;refine⟨I 6,H,bg W W (abz _ _ _ ?_),by rw[fP h];exact G,Step.refl _ _⟩;simp only[xq_,WR,e,k]
  ·have hc:p.cur≠none:=by
    unfold Proc.cur;unfold Proc.left at j;intro o;have:=List.getElem?_eq_none_iff.1 o;omega
   have hm:p.AA={ p with fD:=Z0 }:=by
    unfold Proc.AA;rw[F (by rw[d];exact λh=>h.elim (λh=>(by cases h)) hc)]
   have⟨H',u,w,y,z⟩:=G.store hb h (i:=2) (v:=B Z0) (by simp[qZ]) EX;rw[hm];refine⟨I 0,H',bg W W (abz _ _ _ ?_),w,y⟩;simp only[xq_,WR,e,k,j,u]
def alD(G:Good b H g)(hb:H.base<=b){p:Proc}(h:g q=ZC (qZ p))(K:p.bI.length<1000)(v:Int):
  ∃r H',cl 187 [.ref q 0 0,I v] H=ZC (r,H')/\Good b H' (upd g q (qZ (p.Dc v)))/\Step b H H':=by
 have j:=G.load h (i:=2) (x:=B p.fD) W;cases d:p.fD with
 |false=>
  have hm:p.Dc v=p:=by simp[Proc.Dc,d]
  rw[hm];rw[d]at j;refine⟨I 6,H,bg W W (aiS _ _ _ _ ?_),by rw[fP h];exact G,Step.refl _ _⟩;simp only[xq_,abJ,j,Bool.not_false]
 |true=>
  have hm:p.Dc v=⟨p.ops,p.bI++[v],ZV⟩:=by simp[Proc.Dc,d]
  rw[hm];rw[d]at j;have⟨x,u,c⟩:=G.seq h (i:=1) W;have⟨L,H1,M,w,y,z,k⟩:=(G.new (.blk 0 3 [I v])).append (e:=3) (by_:=8) (n:=p.bI.length) (by rw[iO];exact hb) h (i:=1) W J O (c.new _) (jZ (ex:=Z0) (n:=1) (m:=1) (l:=[I v]) W) W (by unfold most;omega) (by unfold most;omega);have A:upd g q ((qZ p).set 1 (.seq 1 (p.bI.map I++[I v]))) q=ZC ((qZ p).set 1 (.seq 1 (p.bI.map I++[I v]))):=aQ;have⟨C,D,o,E,Q⟩:=z.store (by rw[k.base,iO];exact hb) A (i:=2) (v:=B ZV) (by simp[qZ]) EX;rw[pz]at o;have F:∀H,bs 22 1 [(0,I v)] H=ZC (.sl H.next 0 0 1 1 1 Z0,H.new (.blk 0 3 [I v])):=λH=>(ND J).trans (jE W W W);refine⟨I 0,C,bg W W (aiS _ _ _ _ ?_),?_,((Step.new _ G.1).trans k).trans E⟩
  ·simp only[xq_,abJ,j,Bool.not_true,u,F,w,y,D]
  ·have:qZ ⟨p.ops,p.bI++[v],ZV⟩=((qZ p).set 1 (.seq 1 (p.bI.map I++[I v]))).set 2 (.av (B ZV)):=by simp[qZ]
   rw[this];exact o
end
section
variable {b:Nat}{H:ah}{g:bG}{q:Nat}
def alE(G:Good b H g)(hb:H.base<=b){p:Proc}(h:g q=ZC (qZ p))(T:p.ops.length<1000)(W:p.bI.length<1000)(hv:p.bI.length<=p.ops.length):
  ∃H',cl 136 [.ref q 0 0] H=ZC (.tup [.agg p.op.av,I p.idx,B p.cur.isSome],H')/\Good b H' g/\Step b H H':=by
 refine kN Z3 Z3 (aoY _ _ _) ?_;have L:=(Loc.of G).newL (ty:=61) (xs:=[zI,zI,zI]) (r:=H.next) Z3 Z3;have E:Step b H _:=Step.new (.blk 0 61 [zI,zI,zI]) G.1;have v:=Xu L.good (L.obj h) T W;have d:(H.new (.blk 0 61 [zI,zI,zI])).base<=b:=by rw[iO];exact hb
 have X:Opn.zero.av=[zI,zI,zI]:=rfl;by_cases j:p.left=0
 ·have hc:p.cur=none:=by
   unfold Proc.cur;unfold Proc.left at j;exact List.getElem?_eq_none (by omega)
  have⟨K,e,w,y,z⟩:=L.whole d aj (n:=3) (vs:=[zI,zI,zI]) Z3 Z3 (by decide) Z3;have ez:bd 61 []=ZC (.agg [zI,zI,zI]):=by simp only[xq_,aeO,jf,dX]
  refine⟨K,?_,y.out,E.trans z⟩;rw[j]at v;have hi:p.idx=0:=by simp[Proc.idx,hc]
  have m:p.op.av=[zI,zI,zI]:=by simp only[Proc.op,hc,Option.getD_none];exact X
  simp only[xq_,abu,v,ez,e,w,hi,m,hc,Option.isSome_none]
 ·have A:p.bI.length<p.ops.length:=by unfold Proc.left at j;omega
  have⟨o,m⟩:∃o,p.ops[p.bI.length]?=ZC o:=⟨_,List.getElem?_eq_getElem A⟩
  have hc:p.cur=ZC o:=m;have l0:=L.good.load (L.obj h) (i:=0) (x:=vsl 3 Opn.av p.ops) Z3;have⟨x,u,c⟩:=L.good.seq (L.obj h) (i:=1) Z3;have e2:=(c.is (n:=p.bI.length) (by decide) (by simp)).lnS;have F:=Ig eG (H.new (.blk 0 61 [zI,zI,zI])) p.ops;have M:=F.ix (k:=.i64) (i:=(p.bI.length:Int)) (by omega) (by omega);rw[Int.toNat_natCast]at M;have e4:=jT eG F m;have⟨K,e,w,y,z⟩:=L.whole d aj (n:=3) (vs:=o.av) Z3 (eG _) (by decide) (mg _);have c1:∀{β:Type} (k:Z6 β),ck (bT (.ref q 0 1)) (H.new (.blk 0 61 [zI,zI,zI])) K k=k:=λk=>wu (oU e (by have:=G.lt h;omega));have c2:∀{β:Type} (k:Z6 β),ck (bT x) (H.new (.blk 0 61 [zI,zI,zI])) K k=k:=λk=>YR λr Q=>by
   refine oU e ?_;have⟨c0,aa,R⟩:=G.seq h (i:=1) Z3;have C:x=c0:=by
    have:=(R.new (.blk 0 61 [zI,zI,zI])).load;rw[this]at u;simp only[Option.some.injEq,zaa]at u;exact u.1.symm
   subst C;rcases R.length (n:=p.bI.length) (by decide) (by simp)with⟨rfl,_⟩|⟨r',gg,off,ab,ex,ty,all,rfl,q1,q2,q3,_⟩
   ·cases Q
   ·simp only[bT,Option.some.injEq]at Q;omega
  refine⟨K,?_,y.out,E.trans z⟩;have hi:p.idx=p.bI.length:=by simp[Proc.idx,hc]
  have D:p.op=o:=by simp[Proc.op,hc]
  simp only[xq_,abu,v,j,l0,u,e2,M,e4,e,w,c1,c2,hi,D,hc,Option.isSome_some]
end
def aq8 {β:Type}{s b:Nat}{H H':ah}{k:M β}(h:∀r,s<=r->r<b->H'.get r=H.get r):ckR s b H H' k=k:=y h
def LU(r gg o:Nat)(v:AV){H H':ah}(h:st 1 (.ref r gg (o+1)) v H=ZC (aX,H')):cl 230 [.ref r gg o,v] H=ZC (.tup [],H'):=by
 refine bg W W (aqo _ _ _ _ ?_);simp only[xq_,aje,h]
def ac8(r gg o:Nat)(v:AV){H H':ah}(h:st 1 (.ref r gg o) v H=ZC (aX,H')):cl 231 [.ref r gg o,v] H=ZC (.tup [],H'):=by
 refine bg W W (aqp _ _ _ _ ?_);simp only[xq_,ajf,h]
section
variable {b:Nat}{H:ah}{g:bG}{q:Nat}{ca:Cache}
def OY {K:ah}{ls:Lcl}(L:Loc b K g ls)(hb:K.base<=b)(h:g q=ZC (dD ca))(C:COk ca)(e:Ent)(p:e.data.length<1000000000)(out:Pkt){r4 r6 r8:Nat}(k4:ls r4=ZC zP9)(u:ls r6=ZC e.av)(d:ls r8=ZC out.av):
  ∃H',yc cl (.ref q 0 0) (.ref r4 0 0) (.ref r6 0 0) (.ref r8 0 0) K=ZC (.tup [.agg out.av,I (ca.put e).2],H')/\Good b H' (upd g q (dD (ca.put e).1))/\Step b K H':=by
 have v:=L.lda d (i:=0) (n:=9) (ys:=out.av) W W J;have w:=L.lda u (i:=0) (n:=6) (ys:=e.av) W W J;have⟨y,m,z,o⟩:=BI L.good hb (L.obj h) C e p;have M:=L.call h z;have j:∀{β:Type} (k:Z6 β),ck (bT (.ref r8 0 0)) K y k=k:=λk=>wu (XL L.good M.good (XH _ _ _ _ _ m) (pU d) (pU d));have⟨A,D,E,F,G⟩:=M.whole (by rw[o.base];exact hb) k4 (n:=9) (vs:=out.av) W W J (aV _);refine⟨A,?_,F.out,o.trans G⟩;simp only[xq_,yc,v,w,m,D,E,j]
end
section
variable {b:Nat}{H:ah}{g:bG}{q:Nat}{ca:Cache}
def ZH(r:Cache × Pkt × Int):AV:=.tup [.agg r.2.1.av,I r.2.2]
def RJ(G:Good b H g)(hb:H.base<=b)(h:g q=ZC (dD ca))(C:COk ca)(p:Pkt)(hx:(!p.ok || u (p.aW<3) || u (6<p.aW))=Z0∨ca.find p.ak=Z1):
  ∃H',cl 199 [.ref q 0 0,.agg p.av] H=ZC (ZH (fQ ca p),H')/\Good b H' (upd g q (dD (fQ ca p).1))/\Step b H H':=by
 refine kN W W (aiZ _ _ _ _) ?_;have L1:=(Loc.of G).newL (ty:=81) (xs:=p.av) (r:=H.next) (aV p) W;have L2:=L1.newL (ty:=81) (xs:=zP9) (r:=H.next+1) W (by rw[eu]);have s2:Step b H _:=(Step.new (.blk 0 81 p.av) G.1).trans (Step.new (.blk 0 81 zP9) L1.good.1);have k0:iK (iK noL H.next p.av) (H.next+1) zP9 H.next=ZC p.av:=by rw[aB (by omega),aj]
 have p0:=L2.ld k0 (i:=0) (v:=I p.aW) W;have p4:=L2.ld k0 (i:=4) (v:=I p.ak) W;have pA:=L2.lda k0 (i:=0) (n:=9) (ys:=p.av) W W (by decide);have ck:=λH=>BA H p;have ez:bd 81 []=ZC (.agg zP9):=by simp only[xq_,zC,jf,dX]
 have hbK:((H.new (.blk 0 81 p.av)).new (.blk 0 81 zP9)).base<=b:=by rw[s2.base];exact hb
 by_cases h1:(!p.ok || u (p.aW<3) || u (6<p.aW))=Z0
 ·have hm:fQ ca p=(ca,.zero,1):=by simp only[fQ];rw[y h1]
  rw[hm];have⟨K,z1,z2,z3,z4⟩:=L2.whole hbK aj (n:=9) (vs:=zP9) W W (by decide) W;refine⟨K,?_,by rw[fP h];exact z3.out,s2.trans z4⟩;cases hok:p.ok with
  |false=>
   rw[hok]at ck;simp only[Nat.reduceLT,Int.reduceEq,xq_,Bj,aC (aV p),pA,ck,Bool.not_false,ez,z1,z2,ZH,fM]
  |true=>
   rw[hok]at ck h1;by_cases h3:p.aW<3
   ·simp only[Nat.reduceLT,xq_,Bj,aC (aV p),pA,ck,Bool.not_true,p0,h3,ez,z1,z2,ZH,fM]
   ·have h6:6<p.aW:=by simpa [h3]using h1
    simp only[Nat.reduceLT,xq_,Bj,aC (aV p),pA,ck,Bool.not_true,p0,h3,h6,ez,z1,z2,ZH,fM]
 ·have hfn:ca.find p.ak=none:=hx.resolve_left h1;have hm:fQ ca p=(ca,.zero,3):=by simp only[fQ,hfn];rw[F h1];rfl
  rw[hm];have hok:p.ok=Z0/\¬p.aW<3/\¬6<p.aW:=by
   cases ho:p.ok <;> simp_all
  have ef:=nI L2.good (L2.obj h) C.len C.dat p.ak;rw[hfn]at ef;simp only[jG,Option.getD_none,Option.isSome_none,su]at ef;have LE:=L2.newL (ty:=100) (xs:=zE6) (r:=H.next+1+1) W (by rw[eu,eu]);have sE:Step b H _:=s2.trans (Step.new (.blk 0 100 zE6) L2.good.1);have⟨KE,x1,x2,ME,x4⟩:=LE.whole (by rw[sE.base];exact hb) aj (n:=6) (vs:=zE6) W W (by decide) W;have tE:=sE.trans x4;have⟨K,z1,z2,z3,z4⟩:=ME.whole (by rw[tE.base];exact hb) (r:=H.next+1) (xs:=zP9) (by rw[aB (by omega),aB (by omega),aj]) (n:=9) (vs:=zP9) W W (by decide) W;refine⟨K,?_,by rw[fP h];exact z3.out,tE.trans z4⟩;rw[hok.1]at ck;simp only[Nat.reduceLT,xq_,Bj,aC (aV p),pA,ck,Bool.not_true,Bool.not_false,p0,hok.2.1,hok.2.2,p4,ef,x1,ez,z1,z2,ZH,fM]
end
section
variable {b:Nat}{H:ah}{g:bG}{q:Nat}{ca:Cache}
def afU(G:Good b H g)(hb:H.base<=b)(h:g q=ZC (dD ca))(C:COk ca)(p:Pkt)(hx:¬(!p.ok || u (p.aW<3) || u (6<p.aW))=Z0){e:Ent}(hfd:ca.find p.ak=ZC e):
  ∃H',cl 199 [.ref q 0 0,.agg p.av] H=ZC (ZH (fQ ca p),H')/\Good b H' (upd g q (dD (fQ ca p).1))/\Step b H H':=by
 have hok:p.ok=Z0/\¬p.aW<3/\¬6<p.aW:=by
  cases ho:p.ok <;> simp_all
 have he:e.data.length<1000000000:=C.dat e (List.mem_of_find?_eq_some hfd);refine kN W W (aiZ _ _ _ _) ?_;have L1:=(Loc.of G).newL (ty:=81) (xs:=p.av) (r:=H.next) (aV p) W;have L2:=L1.newL (ty:=81) (xs:=zP9) (r:=H.next+1) W (by rw[eu]);have s2:Step b H _:=(Step.new (.blk 0 81 p.av) G.1).trans (Step.new (.blk 0 81 zP9) L1.good.1);have k0:iK (iK noL H.next p.av) (H.next+1) zP9 H.next=ZC p.av:=by rw[aB (by omega),aj]
 have p0:=L2.ld k0 (i:=0) (v:=I p.aW) W;have p4:=L2.ld k0 (i:=4) (v:=I p.ak) W;have pA:=L2.lda k0 (i:=0) (n:=9) (ys:=p.av) W W (by decide);have ck:=λH=>BA H p;have ef:=nI L2.good (L2.obj h) C.len C.dat p.ak;rw[hfd]at ef;simp only[jG,Option.getD_some,Option.isSome_some]at ef;have LE:=L2.newL (ty:=100) (xs:=zE6) (r:=H.next+1+1) W (by rw[eu,eu]);have sE:Step b H _:=s2.trans (Step.new (.blk 0 100 zE6) L2.good.1);have⟨KE,x1,x2,ME,x4⟩:=LE.whole (by rw[sE.base];exact hb) aj (n:=6) (vs:=e.av) W W (by decide) (jR e);have tE:=sE.trans x4;have nE:H.next+1+1<KE.next:=ME.good.lt (pU (g:=g) aj)
 have LO:=ME.newL (ty:=81) (xs:=zP9) (r:=KE.next) W W;have tO:=tE.trans (Step.new (.blk 0 81 zP9) ME.good.1);let out:Pkt:=⟨D8 p.aW,p.dst,p.src,p.id,p.ak,0,0,ZV,[]⟩
 have y0:∀{xs:Q AV} {l:Lcl},True:=λ{_ _}=>zac;have⟨K0,o1,o2,M0,o4⟩:=LO.whole (by rw[iO,tE.base];exact hb) (r:=KE.next) aj (n:=9) (vs:=out.av) W (cO _) (by decide) (aV _);have t0:=tO.trans o4;have hbK:K0.base<=b:=by rw[t0.base];exact hb
 have ebd:bd 81 [(0,I (D8 p.aW)),(1,I p.dst),(2,I p.src),(3,I p.id),(4,I p.ak)]=ZC (.agg out.av):=by
  simp only[xq_,zC,jf,fO,Uj,out,Pkt.av,Ep];rfl
 have ea:=λH=>Rz H p.aW;have m0:∀{l:Lcl},iK (iK (iK (iK (iK (iK noL H.next p.av) (H.next+1) zP9) (H.next+1+1) zE6) (H.next+1+1) e.av) KE.next zP9) KE.next out.av H.next=ZC p.av:=λ{_}=>by
  rw[aB (by omega),aB (by omega),aB (by omega),aB (by omega),aB (by omega),aj]
 have kE0:iK (iK (iK (iK (iK noL H.next p.av) (H.next+1) zP9) (H.next+1+1) zE6) (H.next+1+1) e.av) KE.next zP9 H.next=ZC p.av:=by
  rw[aB (by omega),aB (by omega),aB (by omega),aB (by omega),aj]
 have r0:=LO.ld kE0 (i:=0) (v:=I p.aW) W;have r1:=LO.ld kE0 (i:=1) (v:=I p.src) W;have r2:=LO.ld kE0 (i:=2) (v:=I p.dst) W;have r3:=LO.ld kE0 (i:=3) (v:=I p.id) W;have r4:=LO.ld kE0 (i:=4) (v:=I p.ak) W;have q0:=M0.ld (m0 (l:=noL)) (i:=0) (v:=I p.aW) W;have q5:=M0.ld (m0 (l:=noL)) (i:=5) (v:=I p.ptr) W;rw[hok.1]at ck;by_cases h4:p.aW=4
 ·have hm:fQ ca p=((ca.put { e with fwd:=p.ptr }).1,out,(ca.put { e with fwd:=p.ptr }).2):=by
   simp only[fQ,hfd];rw[F hx,F (by omega),y h4]
  rw[hm];have⟨K1,u1,M1,w1⟩:=M0.st hbK (r:=H.next+1+1) (xs:=e.av) (by rw[aB (by omega),aB (by omega),aj]) (i:=0) (v:=I p.ptr) (by simp[Ent.av]) dU;have t1:=t0.trans w1;have⟨H',f1,f2,f3⟩:=OY M1 (by rw[t1.base];exact hb) h C { e with fwd:=p.ptr } he out (r4:=H.next+1) (r6:=H.next+1+1) (r8:=KE.next) (by rw[aB (by omega),aB (by omega),aB (by omega),aB (by omega),aB (by omega),aj]) (by rw[aj];rfl) (by rw[aB (by omega),aj]);refine⟨H',?_,f2,t1.trans f3⟩;have sf:=ac8 _ _ _ _ u1;rw[h4]at q0;simp only[Nat.reduceLT,Int.reduceEq,xq_,Bj,aC (aV p),pA,ck,Bool.not_true,p0,hok.2.1,hok.2.2,p4,ef,x1,r0,ea,r1,r2,r3,r4,ebd,o1,q0,q5,sf,f1,ZH]
 ·by_cases h5:p.aW=5
  ·have hm:fQ ca p=((ca.put { e with back:=p.ptr }).1,out,(ca.put { e with back:=p.ptr }).2):=by
    simp only[fQ,hfd];rw[F hx,F (by omega),F h4,y h5]
   rw[hm];have⟨K1,u1,M1,w1⟩:=M0.st hbK (r:=H.next+1+1) (xs:=e.av) (by rw[aB (by omega),aB (by omega),aj]) (i:=1) (v:=I p.ptr) (by simp[Ent.av]) dU;have t1:=t0.trans w1;have⟨H',f1,f2,f3⟩:=OY M1 (by rw[t1.base];exact hb) h C { e with back:=p.ptr } he out (r4:=H.next+1) (r6:=H.next+1+1) (r8:=KE.next) (by rw[aB (by omega),aB (by omega),aB (by omega),aB (by omega),aB (by omega),aj]) (by rw[aj];rfl) (by rw[aB (by omega),aj]);refine⟨H',?_,f2,t1.trans f3⟩;have sf:=LU _ _ 0 _ u1;rw[h5]at q0;simp only[Nat.reduceLT,Int.reduceEq,xq_,Bj,aC (aV p),pA,ck,Bool.not_true,p0,hok.2.1,hok.2.2,p4,ef,x1,r0,ea,r1,r2,r3,r4,ebd,o1,q0,q5,sf,f1,ZH]
  ·have zE:iK (iK (iK (iK (iK (iK noL H.next p.av) (H.next+1) zP9) (H.next+1+1) zE6) (H.next+1+1) e.av) KE.next zP9) KE.next out.av (H.next+1+1)=ZC e.av:=by rw[aB (by omega),aB (by omega),aj]
   have g5:=M0.ld zE (i:=5) (v:=dat e.data) W;have g4:=M0.ld zE (i:=4) (v:=B e.bJ) W;have g0:=M0.ld zE (i:=0) (v:=I e.fwd) W;have⟨K1,u1,M1,w1⟩:=M0.st hbK (r:=KE.next) aj (i:=8) (v:=dat e.data) (by simp[Pkt.av]) sU;have t1:=t0.trans w1;have⟨K2,u2,M2,w2⟩:=M1.st (by rw[t1.base];exact hb) (r:=KE.next) aj (i:=7) (v:=B e.bJ) (by simp[Pkt.av]) EX;have t2:=t1.trans w2;have c1:∀{β:Type} (o:Nat) (k:M β),Proofs.YtgplhpgkompkmaaGreat.ck (bT (.ref (H.next+1+1) 0 o)) K0 K1 k=k:=λo k=>wu (oU u1 (by omega));have c2:∀{β:Type} (o:Nat) (k:M β),Proofs.YtgplhpgkompkmaaGreat.ck (bT (.ref (H.next+1+1) 0 o)) K1 K2 k=k:=λo k=>wu (oU u2 (by omega));by_cases h3:p.aW=3
   ·have hm:fQ ca p=((ca.put { e with bJ:=ZV,back:=p.ptr }).1,{ out with data:=e.data,flag:=e.bJ },(ca.put { e with bJ:=ZV,back:=p.ptr }).2):=by
     simp only[fQ,hfd];rw[F hx,y h3]
    rw[hm];have⟨K3,u3,M3,w3⟩:=M2.st (by rw[t2.base];exact hb) (r:=H.next+1+1) (xs:=e.av) (by rw[aB (by omega),aB (by omega)];exact zE) (i:=4) (v:=B ZV) (by simp[Ent.av]) EX;have t3:=t2.trans w3;have q5':=M3.ld (r:=H.next) (xs:=p.av) (i:=5) (v:=I p.ptr) (by rw[aB (by omega),aB (by omega),aB (by omega)];exact m0 (l:=noL)) W;have⟨K4,u4,M4,w4⟩:=M3.st (by rw[t3.base];exact hb) (r:=H.next+1+1) aj (i:=1) (v:=I p.ptr) (by simp[Ent.av]) dU;have t4:=t3.trans w4;have⟨H',f1,f2,f3⟩:=OY M4 (by rw[t4.base];exact hb) h C { e with bJ:=ZV,back:=p.ptr } he { out with data:=e.data,flag:=e.bJ } (r4:=H.next+1) (r6:=H.next+1+1) (r8:=KE.next) (by rw[aB (by omega),aB (by omega),aB (by omega),aB (by omega),aB (by omega),aB (by omega),aB (by omega),aB (by omega),aj]) (by rw[aj];rfl) (by rw[aB (by omega),aB (by omega),aj];rfl);refine⟨H',?_,f2,t4.trans f3⟩;have sf:=LU _ _ 0 _ u4;rw[h3]at q0;simp only[Nat.reduceLT,Int.reduceEq,xq_,Bj,aC (aV p),pA,ck,Bool.not_true,p0,hok.2.1,hok.2.2,p4,ef,x1,r0,ea,r1,r2,r3,r4,ebd,o1,q0,g5,g4,u1,u2,c1,u3,q5',sf,f1,ZH]
   ·have h6:p.aW=6:=by omega
    have hm:fQ ca p=(ca.drop p.ak,{ out with data:=e.data,flag:=e.bJ,ptr:=e.fwd },0):=by
     simp only[fQ,hfd];rw[F hx,F h3,F h4,F h5]
    rw[hm];have⟨K3,u3,M3,w3⟩:=M2.st (by rw[t2.base];exact hb) (r:=KE.next) aj (i:=5) (v:=I e.fwd) (by simp[Pkt.av]) dU;have t3:=t2.trans w3;have q4:=M3.ld (r:=H.next) (xs:=p.av) (i:=4) (v:=I p.ak) (by rw[aB (by omega),aB (by omega),aB (by omega)];exact m0 (l:=noL)) W;have⟨K4,a1,a2,a3⟩:=Je M3.good (by rw[t3.base];exact hb) (M3.obj h) C.len C.dat p.ak;have M4:=M3.call h a2;have t4:=t3.trans a3;have lo:=M4.lda (r:=KE.next) aj (i:=0) (n:=9) (ys:=({ out with data:=e.data,flag:=e.bJ,ptr:=e.fwd }:Pkt).av) W W (by decide);have⟨K5,v1,v2,v3,v4⟩:=M4.whole (by rw[t4.base];exact hb) (r:=H.next+1) (xs:=zP9) (by rw[aB (by omega),aB (by omega),aB (by omega),aB (by omega),aB (by omega),aB (by omega),aB (by omega),aj]) (n:=9) (vs:=({ out with data:=e.data,flag:=e.bJ,ptr:=e.fwd }:Pkt).av) W (cO _) (by decide) (aV _);refine⟨K5,?_,v3.out,t4.trans v4⟩;rw[h6]at q0;simp only[Nat.reduceLT,Int.reduceEq,xq_,Bj,aC (aV p),pA,ck,Bool.not_true,p0,hok.2.1,hok.2.2,p4,ef,x1,r0,ea,r1,r2,r3,r4,ebd,o1,q0,g5,g4,g0,u1,u2,u3,c1,c2,q4,a1,lo,v1,v2,ZH]
end
section
variable {b:Nat}{H:ah}{g:bG}{q d tt:Nat}{c:Cfg}{me:Int}{h:Home}
def Y5(G:Good b H g)(N:nS g q d tt c me h)(T:TOk h.bn):cl 140 [.ref q 0 0] H=ZC (B (u (h.ready≠[])),H):=by
 refine bD W W (ao3 _ _ _) ?_ fC;have k:=G.guard.load N.1 (i:=1) (x:=.ref tt 0 0) W;have j:=LP G.guard N.2.2 T;have m:=(gJ H.guard h.ready).lnS;have n:h.bn.ready (srt [] (h.bn.wait.map (·.1)))=h.ready:=rfl;rw[n]at j;by_cases e:h.ready=[]
 ·have:¬(0:Int)<(h.ready.length:Int):=by rw[e];decide
  simp only[xq_,abw,k,j,e,ne_eq,not_true_eq_false]
  try rfl
 ·have:(0:Int)<(h.ready.length:Int):=by
   cases o:h.ready with
   |nil=>exact absurd o e
   |cons a l=>simp only[List.length_cons];omega
  simp only[xq_,abw,k,j,m,this,e,ne_eq,not_false_eq_true]
end
section
variable {b:Nat}{H:ah}{g:bG}{q d tt:Nat}{c:Cfg}{me:Int}{h:Home}
def afV(G:Good b H g)(hb:H.base<=b)(N:nS g q d tt c me h)(T:TOk h.bn)(hr:∀e∈h.dS,e.2.data.length<1000000000):
  ∃H',cl 142 [.ref q 0 0] H=ZC (.tup [.agg (h.grant me).2.1.av,B (h.grant me).2.2],H')/\Good b H' (lI g d tt c (h.grant me).1)/\Step b H H':=by
 refine kN W W (ao5 _ _ _) ?_;have L:=(Loc.of G).newL (ty:=81) (xs:=zP9) (r:=H.next) W W;have s1:Step b H _:=Step.new (.blk 0 81 zP9) G.1;have hbK:(H.new (.blk 0 81 zP9)).base<=b:=by rw[iO];exact hb
 have l1:=L.good.load (L.obj N.1) (i:=1) (x:=.ref tt 0 0) W;have e1:=LP L.good (L.obj N.2.2) T;have e2:=(gJ (H.new (.blk 0 81 zP9)) h.ready).lnS;have hre:h.bn.ready (srt [] (h.bn.wait.map (·.1)))=h.ready:=rfl;rw[hre]at e1;have ez:bd 81 []=ZC (.agg zP9):=by simp only[xq_,zC,jf,dX]
 cases hz:h.ready with
 |nil=>
  have hm:h.grant me=(h,.zero,ZV):=by simp only[Home.grant,hz]
  rw[hm,Gl N];have⟨K,z1,z2,z3,z4⟩:=L.whole hbK aj (n:=9) (vs:=zP9) W W (by decide) W;refine⟨K,?_,z3.out,s1.trans z4⟩;rw[hz]at e1 e2;have n0:¬((0:Int)<((([]:Q Int).length:Nat):Int)):=by decide
  simp only[xq_,aby,l1,e1,e2];rw[WQ];simp only[xq_,n0,ez,z1,z2,fM]
 |cons ak rest=>
  have⟨m1,m2,_⟩:=AO hz;have⟨w,ws,hw⟩:∃w ws,h.bn.ws ak=w::ws:=by
   cases hx:h.bn.ws ak with
   |nil=>exact absurd hx m2
   |cons a l=>exact⟨a,l,W⟩
  have hn:h.bn.next ak=(⟨lK h.bn.iI ak w.1,lK h.bn.wait ak ws⟩,ZC w):=by simp only[Turns.next,m1,hw,Bool.false_eq_true,zaf]
  have hm:h.grant me=({ h with bn:=(h.bn.next ak).1 },granted h.dS me ak w.1 w.2,Z0):=by simp only[Home.grant,hz,hn]
  rw[hm];have⟨K1,a1,a2,a3⟩:=acM L.good hbK (L.obj N.2.2) T.nd ak (T.ws ak);have M:=L.call N.2.2 a2;have NK:=N.als { h with bn:=(h.bn.next ak).1 };rw[zS N]at NK ⊢;have NL:nS (lay (upd g tt (iU (h.bn.next ak).1)) (iK noL H.next zP9)) q d tt c me { h with bn:=(h.bn.next ak).1 }:=⟨M.obj NK.1,M.obj NK.2.1,M.obj NK.2.2⟩
  have gr:=LM M.good NL hr ak w.1 w.2;have⟨K,z1,z2,z3,z4⟩:=M.whole (by rw[a3.base];exact hbK) aj (n:=9) (vs:=(granted h.dS me ak w.1 w.2).av) W (cO _) (by decide) (aV _);refine⟨K,?_,z3.out,(s1.trans a3).trans z4⟩;have hs:=gJ (H.new (.blk 0 81 zP9)) h.ready;have x1:=hs.ix (k:=.i64) (i:=(0:Int)) (by omega) (by rw[hz];simp only[List.length_cons];omega);have x2:=hs.ld (i:=0) (by rw[hz];simp);rw[hz]at x1 x2 e1 e2;simp only[List.map_cons,List.getElem?_cons_zero,Option.map_some]at x2;rw[show((0:Int).toNat)=0 from W]at x1;have n0:(0:Int)<(((ak::rest).length:Nat):Int):=by simp only[List.length_cons];omega
  rw[hn]at a1;simp only[aqK,Option.getD_some,Option.isSome_some]at a1;simp only[xq_,aby,l1,e1,e2];rw[WQ];simp only[xq_,n0,x1,x2,l1,a1,gr,z1,z2]
end
structure avR(c:Cfg)(o:Opn):Prop where
 k1:1<=o.aW
 k4:o.aW<=4
 ak:c.bZ o.addr=o.addr.tdiv c.aP
 lo:0<=c.bZ o.addr
 hi:c.bZ o.addr<c.aT
 word:c.dH o.addr=o.addr.tmod c.aP
 wlo:0<=c.dH o.addr
 whi:c.dH o.addr<c.aP
def arY {c:Cfg}(hc:c.ok=Z0){o:Opn}(h:c.right o=Z0):avR c o:=by
 have⟨_,m,hw,_⟩:=lu hc;unfold Cfg.right at h;simp only[Bool.and_eq_true,zab]at h;have⟨⟨⟨i,j⟩,k⟩,_⟩:=h;have b:¬(o.addr<0∨c.fG<=o.addr):=λe=>k (by unfold Cfg.bZ;rw[y e]);simp only[not_or]at b;have d:c.bZ o.addr=o.addr / c.aP:=by unfold Cfg.bZ;rw[F (by simp only[not_or];exact b)]
 have g:c.dH o.addr=o.addr % c.aP:=by unfold Cfg.dH;rw[F (by simp only[not_or];exact b)]
 have ha:o.addr<c.aT*c.aP:=by have:=b.2;unfold Cfg.fG at this;omega
 refine⟨i,j,?_,?_,?_,?_,?_,?_⟩
 ·rw[d,Int.tdiv_eq_ediv_of_nonneg V]
 ·rw[d];exact Int.ediv_nonneg V V
 ·rw[d];exact Int.ediv_lt_of_lt_mul V ha
 ·rw[g,Int.tmod_eq_emod_of_nonneg V]
 ·rw[g];exact Int.emod_nonneg _ V
 ·rw[g];exact Int.emod_lt_of_pos _ V
def qU(e:Ent)(o:Opn)(w:Int):(fA e o w).ak=e.ak/\(fA e o w).used=e.used/\(fA e o w).bJ=e.bJ/\(fA e o w).data.length=e.data.length:=by
 unfold fA;split
 ·unfold Ent.write;split <;> simp
 ·split
  ·unfold Ent.write;split <;> simp
  ·simp
def Y6 {c:Cfg}{e:Ent}{o:Opn}{w:Int}(hd:pG c e.data)(d:I64 o.value):pG c (fA e o w).data:=by
 refine⟨by rw[(qU e o w).2.2.2];exact hd.1,?_⟩;have key:∀v,I64 v->∀x∈(e.write w v).data,I64 x:=by
  intro v hv x b;unfold Ent.write at b;split at b
  ·rcases List.mem_or_eq_of_mem_set b with h|h
   ·exact hd.2 x h
   ·rw[h];exact hv
  ·exact hd.2 x b
 unfold fA;split
 ·exact key _ d
 ·split
  ·exact key _ (anu _)
  ·exact hd.2
def OZ {ca:Cache}(b:Lines ca.l){e:Ent}(h0:0<=e.ak)(g:ca.full e.ak=ZV):∃u,(ca.put e).1.find e.ak=ZC { e with used:=u }:=by
 cases h:ca.find e.ak with
 |some x=>
  refine⟨x.used,?_⟩;rw[nD b h0 h];have⟨i,d⟩:=(ji b).1 h;unfold Cache.find;rw[ji (AQ b λy _=>by
   split
   ·rename_i h;exact h.symm
   ·rfl)]
  exact⟨List.mem_map.2 ⟨x,i,by rw[YY d]⟩,W⟩
 |none=>
  refine⟨ca.dN+1,?_⟩;unfold Cache.put;rw[F V,IB.2 h];simp only[g,Bool.false_eq_true,zaf];unfold Cache.find;rw[List.find?_append];have:(ca.l.find? λx=>YM (x.ak=e.ak))=none:=h;rw[this];simp
def Jl(ca:Cache)(e:Ent):(ca.put e).1.dN<=ca.dN+1:=by
 unfold Cache.put;split
 ·simp only;omega
 ·split
  ·simp only;omega
  ·split <;> simp only <;> omega
def DC(ca:Cache)(ak:Int):(ca.drop ak).dN=ca.dN:=by
 unfold Cache.drop;split <;> rfl
def sJ(me:Int)(n:Node)(p:Pkt):n.after me p=Ee n.aO me n.aJ p:=rfl
def BK {d:bW}{me:Int}{ca:Cache}{p:Pkt}(h:d.fits p=ZV):Ee d me ca p=yJ ca:=by
 have b:dW d me ca p=yJ ca:=by unfold dW;rw[y (.inr h)]
 have e:dY d me ca p=yJ ca:=by unfold dY;rw[y (.inr h)]
 have g:eP d ca p=yJ ca:=by unfold eP;rw[y (.inr h)]
 unfold Ee;rw[b,e,g];split
 ·rfl
 ·split
  ·rfl
  ·split <;> rfl
def ac9 {d:bW}{p:Pkt}(h:d.fits p=Z0):p.aW=D8 (Ar d.step):=by
 unfold bW.fits at h;simp only[Bool.and_eq_true,zab]at h;exact h.1.1.2
structure Jm(c:Cfg)(d:bW)(ca:Cache)(d':bW)(ca':Cache):Prop where
 inv:Fb c ca'
 ak:d'.ak=d.ak
 aW:d'.aW=d.aW
 dat:d'.data=[]∨pG c d'.data
 akf:d'.aW=2->d'.step=3->pG c d'.data
 clk:ca'.dN<=ca.dN∨(d.aW≠3/\d'.step=6/\ca'.dN<=ca.dN+1)
 way:(d.step=6/\d'.step=0/\ca'=ca)∨(d'.step≠0/\d.step≠6/\(d.aW≠3->(d'.step≠6/\ca'=ca)∨(d'.step=6/\∃e,ca'.find d.ak=some e/\(d.aW=2->e.bJ=true))))
def XM {c:Cfg}{ca:Cache}(I:Fb c ca){d:bW}{me:Int}(h0:0<=d.ak)(q:d.ak<c.aT)(v:ca.full d.ak=ZV)(hd:pG c d.data)(hk:d.aW=2)(y:d.step≠6){i:bW}(j:i.ak=d.ak)(k:i.aW=d.aW)(o:i.step≠6):
  Jm c i ca (dw d me ca).2 (dw d me ca).1:=by
 have key:∀b:bW,b.ak=d.ak->b.aW=d.aW->b.data=d.data->Jm c i ca (if b.next≠-1 then(ca,{ b with step:=3 })else((ca.put ⟨-1,-1,b.ak,0,Z0,b.data⟩).1,{ b with step:=6,state:=2,head:=me,data:=[] })).2 (if b.next≠-1 then(ca,{ b with step:=3 })else((ca.put ⟨-1,-1,b.ak,0,Z0,b.data⟩).1,{ b with step:=6,state:=2,head:=me,data:=[] })).1:=by
  intro b g p m;by_cases h:b.next≠-1
  ·rw[YY h];exact⟨I,by rw[j];exact g,by rw[k];exact p,.inr (by simp only[m];exact hd),λ_ _=>by simp only[m];exact hd,.inl (Int.le_refl _),.inr ⟨O,o,λ_=>.inl ⟨O,W⟩⟩⟩
  ·rw[F h];have⟨u,w⟩:=OZ I.aT (e:=⟨-1,-1,b.ak,0,Z0,b.data⟩) (by simp only[g];exact h0) (by simp only[g];exact v);have n:(ca.put ⟨-1,-1,b.ak,0,Z0,b.data⟩).1.find i.ak=ZC ⟨-1,-1,b.ak,u,Z0,b.data⟩:=by
    rw[j,<-g];exact w
   exact⟨I.put (by simp only[g];exact h0) (by simp only[g];exact q) (by simp only[m];exact hd),by rw[j];exact g,by rw[k];exact p,.inl W,λ_ h=>by simp at h,.inr ⟨by rw[k,hk];decide,W,Jl _ _⟩,.inr ⟨O,o,λ_=>.inr ⟨W,_,n,λ_=>rfl⟩⟩⟩
 unfold dw;cases ca.find d.ak with
 |none=>exact key d W W W
 |some own=>
  by_cases h:d.next=me
  ·simp only[YY h];exact key { d with next:=own.fwd } W W W
  ·simp only[F h];exact key d W W W
def O4 {c:Cfg}{n:Node}{me:Int}(I:Fb c n.aJ)(D:ahG c n)(hs0:n.aO.step≠0){p:Pkt}(Q:yK c p){ca:Cache}{d:bW}(h:Ee n.aO me n.aJ p=(ca,d,Z0)):Jm c n.aO n.aJ d ca:=by
 have hf:n.aO.fits p=true:=by
  cases e:n.aO.fits p with
  |true=>rfl
  |false=>rw[BK e]at h;simp[yJ]at h
 have hpk:=ac9 hf;have aum:n.aO.step=1->pG c p.data:=λe=>Q.dat (.inl (by rw[hpk,e];rfl));have aun:n.aO.step=2∨n.aO.step=3->pG c p.data:=λe=>Q.dat (.inr (by rcases e with e|e <;> rw[hpk,e] <;> rfl));have s6:n.aO.step=6->(n.aJ,{ n.aO with step:=0 },Z0)=(ca,d,Z0)->Jm c n.aO n.aJ d ca:=λs e=>by
  simp only[zaa,zau]at e;obtain⟨rfl,rfl⟩:=e;exact⟨I,Z3,Z3,D.dat,λ_ h=>by simp at h,.inl (Int.le_refl _),.inl ⟨s,Z3,Z3⟩⟩
 unfold Ee at h;by_cases k1:n.aO.aW=1
 ·rw[y k1]at h;unfold dW at h;rw[F (show¬(n.aO.aW≠1∨n.aO.fits p=ZV) by rw[hf];rintro(h|h) <;> first|omega|cases h)]at h;have W:=D.work (by omega);by_cases t1:n.aO.step=1
  ·rw[y t1]at h;have W:=W (by omega);by_cases p0:p.state≠0
   ·rw[y p0]at h;simp only[zaa,zau]at h;obtain⟨rfl,rfl⟩:=h;exact⟨I,Z3,Z3,.inr (aum t1),λh=>by simp only at h;omega,.inl (Int.le_refl _),.inr ⟨by simp,by omega,λ_=>.inl ⟨by simp,Z3⟩⟩⟩
   ·rw[F p0]at h;simp only[zaa,zau]at h;obtain⟨rfl,rfl⟩:=h;have⟨u,hu⟩:=OZ I.aT (e:=⟨-1,-1,n.aO.ak,0,ZV,p.data⟩) D.lo W.full;exact⟨I.put D.lo D.hi (aum t1),Z3,Z3,.inl Z3,λ_ h=>by simp at h,.inr ⟨by omega,Z3,Jl _ _⟩,.inr ⟨by simp,by omega,λ_=>.inr ⟨Z3,_,hu,λh=>by omega⟩⟩⟩
  rw[F t1]at h;by_cases t2:n.aO.step=2
  ·rw[y t2]at h;have W:=W (by omega);simp only[zaa,zau]at h;obtain⟨rfl,rfl⟩:=h;have⟨u,hu⟩:=OZ I.aT (e:=⟨n.aO.head,-1,n.aO.ak,0,ZV,p.data⟩) D.lo W.full;refine⟨I.put D.lo D.hi (aun (.inl t2)),Z3,Z3,?_,λh=>by simp only at h;omega,.inr ⟨by omega,Z3,Jl _ _⟩,.inr ⟨by simp,by omega,λ_=>.inr ⟨Z3,_,hu,λh=>by omega⟩⟩⟩;simp only;split
   ·exact .inr (aun (.inl t2))
   ·exact .inl Z3
  rw[F t2]at h;by_cases t6:n.aO.step=6
  ·rw[y t6]at h;exact s6 t6 h
  ·rw[F t6]at h;simp[yJ]at h
 rw[F k1]at h;by_cases k2:n.aO.aW=2
 ·rw[y k2]at h;unfold dY at h;rw[F (show¬(n.aO.aW≠2∨n.aO.fits p=ZV) by rw[hf];rintro(h|h) <;> first|omega|cases h)]at h;have W:=D.work (by omega);by_cases t1:n.aO.step=1
  ·rw[y t1]at h;have W:=W (by omega);simp only[zaa,zau]at h;obtain⟨rfl,rfl⟩:=h;have key:∀dt,pG c dt->Jm c n.aO n.aJ (dw { n.aO with state:=p.state,head:=p.ptr,told:=p.ptr,data:=dt,next:=p.ptr } me n.aJ).2 (dw { n.aO with state:=p.state,head:=p.ptr,told:=p.ptr,data:=dt,next:=p.ptr } me n.aJ).1:=λdt hdt=>
    XM (d:={ n.aO with state:=p.state,head:=p.ptr,told:=p.ptr,data:=dt,next:=p.ptr }) I D.lo D.hi W.full hdt k2 (show n.aO.step≠6 by omega) Z3 Z3 (by omega)
   cases hfd:n.aJ.find n.aO.ak with
   |none=>exact key _ (aum t1)
   |some e=>exact key _ (I.ent e ((ji I.aT).1 hfd).1).dat
  rw[F t1]at h;by_cases t3:n.aO.step=3
  ·rw[y t3]at h;have W:=W (by omega);simp only[zaa,zau]at h;obtain⟨rfl,rfl⟩:=h;have key:∀dt,pG c dt->Jm c n.aO n.aJ (dw { n.aO with data:=dt,next:=p.ptr } me n.aJ).2 (dw { n.aO with data:=dt,next:=p.ptr } me n.aJ).1:=λdt hdt=>
    XM (d:={ n.aO with data:=dt,next:=p.ptr }) I D.lo D.hi W.full hdt k2 (show n.aO.step≠6 by omega) Z3 Z3 (by omega)
   cases hfd:n.aJ.find n.aO.ak with
   |none=>exact key _ (aun (.inr t3))
   |some e=>exact key _ (D.akf k2 t3)
  rw[F t3]at h;by_cases t6:n.aO.step=6
  ·rw[y t6]at h;exact s6 t6 h
  ·rw[F t6]at h;simp[yJ]at h
 rw[F k2]at h;have k3:n.aO.aW=3:=by have:=D.aW;omega
 rw[y k3]at h;unfold eP at h;rw[F (show¬(n.aO.aW≠3∨n.aO.fits p=ZV) by rw[hf];rintro(h|h) <;> first|omega|cases h)]at h;have no3:∀{P:Prop},n.aO.aW≠3->P:=λh=>absurd k3 h;by_cases t1:n.aO.step=1
 ·rw[y t1]at h;cases hfd:n.aJ.find n.aO.ak with
  |none=>
   simp only[hfd,zaa,zau]at h;obtain⟨rfl,rfl⟩:=h;exact⟨I,Z3,Z3,.inl Z3,λh=>by simp only at h;omega,.inl (Int.le_refl _),.inr ⟨by simp,by omega,no3⟩⟩
  |some e=>
   simp only[hfd]at h;have E:=I.ent e ((ji I.aT).1 hfd).1;by_cases b1:e.back=-1/\e.fwd=-1
   ·simp only[y b1,zaa,zau]at h;obtain⟨rfl,rfl⟩:=h;refine⟨I.drop _,Z3,Z3,?_,λh=>by simp only at h;omega,.inl (by rw[DC];exact Int.le_refl _),.inr ⟨by simp,by omega,no3⟩⟩;simp only;split
    ·exact .inr E.dat
    ·exact .inl Z3
   ·simp only[F b1]at h;by_cases b2:e.back=-1
    ·simp only[y b2,zaa,zau]at h;obtain⟨rfl,rfl⟩:=h;exact⟨I,Z3,Z3,.inl Z3,λh=>by simp only at h;omega,.inl (Int.le_refl _),.inr ⟨by simp,by omega,no3⟩⟩
    ·simp only[F b2,zaa,zau]at h;obtain⟨rfl,rfl⟩:=h;exact⟨I,Z3,Z3,.inl Z3,λh=>by simp only at h;omega,.inl (Int.le_refl _),.inr ⟨by simp,by omega,no3⟩⟩
 rw[F t1]at h;have out:∀hd,gX n.aO n.aJ hd=(ca,d,Z0)->n.aO.step≠6->Jm c n.aO n.aJ d ca:=λhd e hs=>by
  simp only[gX,zaa,zau]at e;obtain⟨rfl,rfl⟩:=e;exact⟨I.drop _,Z3,Z3,.inl Z3,λh=>by simp only at h;omega,.inl (by rw[DC];exact Int.le_refl _),.inr ⟨by simp,hs,no3⟩⟩
 by_cases t4:n.aO.step=4
 ·rw[y t4]at h;split at h
  ·exact out _ h (by omega)
  ·simp only[zaa,zau]at h;obtain⟨rfl,rfl⟩:=h;exact⟨I,Z3,Z3,D.dat,λh=>by simp only at h;omega,.inl (Int.le_refl _),.inr ⟨by simp,by omega,no3⟩⟩
 rw[F t4]at h;by_cases t5:n.aO.step=5
 ·rw[y t5]at h;split at h
  ·exact out _ h (by omega)
  ·exact out _ h (by omega)
 rw[F t5]at h;by_cases t6:n.aO.step=6
 ·rw[y t6]at h;exact s6 t6 h
 ·rw[F t6]at h;simp[yJ]at h
structure Tv where
 a:Nat->Nat
 f:Nat
 P:Nat->Nat->Nat
 t:Nat
def ajw(S:Tv)(k:Nat)(q:Nat):Prop:=(∃i,i<6/\q=S.a i)∨Pz S.P k q∨q=S.t
structure NW(g:bG)(S:Tv)(c:Cfg)(me:Int)(w:NFT):Prop where
 bC:qO g S.a c me w.1
 fab:iG g S.f S.P c w.2.1
 tr:g S.t=some (mM w.2.2)
 Xt:U1 S.P w.2.1.l.length
 tf:S.t≠S.f
def jH {g:bG}{x y:Nat}{A B:Q Cell}(h:g x=ZC A)(b:g y=ZC B)(d:A.length≠B.length):x≠y:=λe=>by
 subst e;rw[h]at b;exact d (by rw[Option.some.inj b])
def aq9 {g:bG}{x y:Nat}{A B:Q Cell}(h:g x=ZC A)(b:g y=ZC B)(d:A[1]?≠B[1]?):x≠y:=λe=>by
 subst e;rw[h]at b;exact d (by rw[Option.some.inj b])
section
variable {b:Nat}{K K':ah}{g g':bG}{ls:Lcl}{S:Tv}{c:Cfg}{me:Int}{w:NFT}
def iy {a:Nat->Nat}{d:bW}{num:Int}:(yN a c me d num).length=22:=by simp[yN,OI,Cfg.av,bW.av]
def nT {l:Q Evn}:(mM l).length=1:=rfl
def kJ {P:Nat->Nat->Nat}{n:Nat}:(afu P n).length=1:=rfl
def gK {ca:Cache}:(dD ca).length=4:=rfl
def iZ {p:Proc}:(qZ p).length=3:=rfl
def gQ {t:Turns}:(iU t).length=2:=rfl
def jV {l:Q Pkt}{r:Int}:(nP l r).length=2:=rfl
def kK {r:Rows}:(EH c r).length=9:=by simp[EH,Cfg.av]
def jm {d t:Nat}:(EI d t c me).length=11:=by simp[EI,Cfg.av]
def NW.ada(N:NW g S c me w):(∀i,i<6->S.a i≠S.t):=λi hi=>by
 have⟨b,d,e,h,j,k⟩:=N.bC
 match i,hi with
 |0,_=>exact jH b N.tr (by simp only[iy,nT];decide)
 |1,_=>exact jH d N.tr (by simp only[nT,gK];decide)
 |2,_=>exact jH e N.tr (by simp only[nT,iZ];decide)
 |3,_=>exact jH h N.tr (by simp only[nT,jm];decide)
 |4,_=>exact jH j N.tr (by simp only[nT,kK];decide)
 |5,_=>exact jH k N.tr (by simp only[nT,gQ];decide)
def NW.auo(N:NW g S c me w):(∀i,i<6->S.a i≠S.f):=λi hi=>by
 have⟨b,d,e,j,k,m⟩:=N.bC;have h:=N.fab.1
 match i,hi with
 |0,_=>exact jH b h (by simp only[iy,kJ];decide)
 |1,_=>exact jH d h (by simp only[kJ,gK];decide)
 |2,_=>exact jH e h (by simp only[kJ,iZ];decide)
 |3,_=>exact jH j h (by simp only[kJ,jm];decide)
 |4,_=>exact jH k h (by simp only[kJ,kK];decide)
 |5,_=>exact jH m h (by simp only[kJ,gQ];decide)
def NW.port {q:Nat}(N:NW g S c me w)(h:Pz S.P w.2.1.l.length q):∃l r,g q=ZC (nP l r):=by
 obtain⟨i,s,hi,b,rfl⟩:=h;exact⟨_,_,gZ (N.fab.port hi) b⟩
def NW.Y7(N:NW g S c me w){q:Nat}(h:Pz S.P w.2.1.l.length q):(∀i,i<6->S.a i≠q)/\S.t≠q/\S.f≠q:=by
 have⟨l,r,b⟩:=N.port h;have⟨d,e,j,k,m,n⟩:=N.bC;refine⟨λi hi=>?_,jH N.tr b (by simp only[nT,jV];decide),jH N.fab.1 b (by simp only[kJ,jV];decide)⟩
 match i,hi with
 |0,_=>exact jH d b (by simp only[iy,jV];decide)
 |1,_=>exact jH e b (by simp only[gK,jV];decide)
 |2,_=>exact jH j b (by simp only[iZ,jV];decide)
 |3,_=>exact jH k b (by simp only[jV,jm];decide)
 |4,_=>exact jH m b (by simp only[jV,kK];decide)
 |5,_=>exact aq9 n b (by simp[iU,nP])
def iG.same {f:Nat}{P:Nat->Nat->Nat}{fab:Fab}(F:iG g f P c fab)(b:g' f=g f)(d:∀q,Pz P fab.l.length q->g' q=g q):iG g' f P c fab:=
 ⟨by rw[b];exact F.1,λi p hi=>(F.2.1 i p hi).ext λs e=>d _ ⟨i,s,(List.getElem?_eq_some_iff.1 hi).1,e,W⟩,F.2.2⟩
def NW.set(N:NW g S c me w){n:Node}(b:qO g' S.a c me n)(h:∀q,(∀i,i<6->q≠S.a i)->g' q=g q):NW g' S c me (n,w.2):=by
 refine⟨b,N.fab.same (h _ λi hi=>(N.auo i hi).symm) (λq d=>h _ λi hi=>((N.Y7 d).1 i hi).symm),?_,N.Xt,N.tf⟩;rw[h _ λi hi=>(N.ada i hi).symm];exact N.tr
def Off.arZ {k:Nat}(h:∀q,(∀i,i<6->q≠S.a i)->g' q=g q):Off (ajw S k) g g':=λq b=>h q λi hi e=>b (.inl ⟨i,hi,e⟩)
def DF {i:Nat}(hi:i<6){cs:Q Cell}:∀q,(∀i,i<6->q≠S.a i)->upd g (S.a i) cs q=g q:=λq b=>bF (b i hi)
def NW.aJ(N:NW g S c me w)(ca:Cache):NW (upd g (S.a 1) (dD ca)) S c me ({ w.1 with aJ:=ca },w.2):=by
 refine N.set ?_ (DF J);have I:=N.bC;have⟨b,n,d,j,k,m⟩:=N.bC;have ne:∀i,i<6->i≠1->S.a i≠S.a 1:=λi hi h e=>h (I.inj hi J e);exact⟨by rw[bF (ne 0 J J)];exact b,aQ,by rw[bF (ne 2 J J)];exact d,by rw[bF (ne 3 J J)];exact j,by rw[bF (ne 4 J J)];exact k,by rw[bF (ne 5 J J)];exact m⟩
def NW.bU(N:NW g S c me w)(p:Proc):NW (upd g (S.a 2) (qZ p)) S c me ({ w.1 with bU:=p },w.2):=by
 refine N.set ?_ (DF J);have I:=N.bC;have⟨b,d,n,j,k,m⟩:=N.bC;have ne:∀i,i<6->i≠2->S.a i≠S.a 2:=λi hi h e=>h (I.inj hi J e);exact⟨by rw[bF (ne 0 J J)];exact b,by rw[bF (ne 1 J J)];exact d,aQ,by rw[bF (ne 3 J J)];exact j,by rw[bF (ne 4 J J)];exact k,by rw[bF (ne 5 J J)];exact m⟩
def NW.own(N:NW g S c me w)(d:bW)(num:Int):NW (upd g (S.a 0) (yN S.a c me d num)) S c me ({ w.1 with aO:=d,num:=num },w.2):=by
 refine N.set ?_ (DF J);have I:=N.bC;have⟨o,b,j,k,m,n⟩:=N.bC;have ne:∀i,i<6->i≠0->S.a i≠S.a 0:=λi hi h e=>h (I.inj hi J e);exact⟨aQ,by rw[bF (ne 1 J J)];exact b,by rw[bF (ne 2 J J)];exact j,by rw[bF (ne 3 J J)];exact k,by rw[bF (ne 4 J J)];exact m,by rw[bF (ne 5 J J)];exact n⟩
def NW.home(N:NW g S c me w)(h:Home):NW (lI g (S.a 4) (S.a 5) c h) S c me ({ w.1 with home:=h },w.2):=by
 have I:=N.bC;have⟨d,k,m,n⟩:=N.bC;refine N.set ?_ λq b=>?_
 ·have ne:∀i j,i<6->j<6->i≠j->S.a i≠S.a j:=λi j hi o h e=>h (I.inj hi o e);refine⟨?_,?_,?_,n.als h⟩
  ·unfold lI;rw[bF (ne 0 5 J J J),bF (ne 0 4 J J J)];exact d
  ·unfold lI;rw[bF (ne 1 5 J J J),bF (ne 1 4 J J J)];exact k
  ·unfold lI;rw[bF (ne 2 5 J J J),bF (ne 2 4 J J J)];exact m
 ·unfold lI;rw[bF (b 5 J),bF (b 4 J)]
def NW.trace(N:NW g S c me w)(l:Q Evn):NW (upd g S.t (mM l)) S c me (w.1,w.2.1,l):=by
 refine⟨N.bC.ext λs b=>bF (N.ada s b),N.fab.same (bF N.tf.symm) (λq d=>bF (N.Y7 d).2.1.symm),aQ,N.Xt,N.tf⟩
def NW.net(N:NW g S c me w){fab:Fab}(F:iG g' S.f S.P c fab)(b:fab.l.length=w.2.1.l.length)(O:Off (Pz S.P w.2.1.l.length) g g'):NW g' S c me (w.1,fab,w.2.2):=by
 have d:∀i,i<6->¬Pz S.P w.2.1.l.length (S.a i):=λi hi h=>(N.Y7 h).1 i hi W;refine⟨N.bC.ext λs e=>O _ (d s e),F,?_,by rw[b];exact N.Xt,N.tf⟩;rw[O _ λh=>(N.Y7 h).2.1 W];exact N.tr
def NW.sub(N:NW g S c me w)(h:uF g g'):NW g' S c me w:=
 ⟨N.bC.ext λs d=>by have⟨l,b⟩:=N.bC.some d;rw[b,h _ _ b],N.fab.sub h,h _ _ N.tr,N.Xt,N.tf⟩
def Loc.sub(L:Loc b K g ls):uF g (lay g ls):=λq cs h=>L.obj h
def Loc.home(L:Loc b K g ls){d t:Nat}{cs cs':Q Cell}(m:g d=ZC cs)(n:g t=ZC cs'){h:Home}(G:Good b K' (lI (lay g ls) d t c h)):Loc b K' (lI g d t c h) ls:=by
 have j:=(L.at_ m).2;have k:=(L.at_ n).2;unfold lI at G ⊢;refine⟨by rw[OX k,OX j];exact G,λr i=>?_⟩;rw[bF (λe=>by subst e;exact i k),bF (λe=>by subst e;exact i j)];exact L.free r i
def Loc.net(L:Loc b K g ls){T:Nat->Prop}(j:∀q,T q->g q≠none){i:bG}(G:Good b K' i)(O:Off T (lay g ls) i):∃g',Loc b K' g' ls/\Off T g g'/\∀q,ls q=none->g' q=i q:=by
 let g':bG:=λq=>match ls q with
  |some _=>none
  |none=>i q
 have d:∀q,ls q=none->g' q=i q:=λq h=>by simp only[g',h]
 have e:lay g' ls=i:=by
  funext q
  cases h:ls q with
  |none=>simp only[lay,h];exact d q h
  |some xs=>
   have:¬T q:=λk=>j q k (L.free q (by rw[h];simp));rw[O q this];simp only[lay,h]
 refine⟨g',⟨by rw[e];exact G,λr m=>?_⟩,λq n=>?_,d⟩
 ·simp only[g'];cases h:ls r with
  |none=>exact absurd h m
  |some xs=>rfl
 ·cases h:ls q with
  |none=>rw[d q h,O q n];simp only[lay,h]
  |some xs=>
   simp only[g',h];rw[L.free q (by rw[h];simp)]
end
def NW.agree {g g':bG}{S:Tv}{c:Cfg}{me:Int}{w:NFT}(N:NW g S c me w)(h:∀q,ajw S w.2.1.l.length q∨q=S.f->g' q=g q):NW g' S c me w:=
 ⟨N.bC.ext λs b=>h _ (.inl (.inl ⟨s,b,W⟩)),N.fab.same (h _ (.inr W)) λq d=>h _ (.inl (.inr (.inl d))),by rw[h _ (.inl (.inr (.inr W)))];exact N.tr,N.Xt,N.tf⟩
def NW.here {g:bG}{S:Tv}{c:Cfg}{me:Int}{w:NFT}(N:NW g S c me w){q:Nat}(h:ajw S w.2.1.l.length q):g q≠none:=by
 rcases h with⟨i,hi,rfl⟩|d|rfl
 ·have⟨l,b⟩:=N.bC.some hi;rw[b];simp
 ·have⟨l,r,b⟩:=N.port d;rw[b];simp
 ·rw[N.tr];simp
def au2(b:Nat)(H:ah)(g:bG)(S:Tv)(c:Cfg)(me:Int)(k:Nat)(H':ah)(w':NFT):Prop:=
 ∃g',Good b H' g'/\NW g' S c me w'/\Off (ajw S k) g g'/\Step b H H'/\w'.2.1.l.length=k
structure Walk(b:Nat)(H:ah)(g0:bG)(S:Tv)(c:Cfg)(me:Int)(k:Nat)(K:ah)(g:bG)(ls:Lcl)(w:NFT):Prop where
 hb:H.base<=b
 loc:Loc b K g ls
 nw:NW g S c me w
 off:Off (ajw S k) g0 g
 step:Step b H K
 len:w.2.1.l.length=k
section
variable {b:Nat}{H:ah}{g0:bG}{S:Tv}{c:Cfg}{me:Int}{k:Nat}{K K':ah}{g:bG}{ls:Lcl}{w w':NFT}
def Walk.of {g:bG}(G:Good b H g)(hb:H.base<=b)(N:NW g S c me w):Walk b H g S c me w.2.1.l.length H g noL w:=⟨hb,Loc.of G,N,Off.refl _ _,Step.refl _ _,W⟩
def Walk.base(W:Walk b H g0 S c me k K g ls w):K.base<=b:=by rw[W.step.base];exact W.hb
def Walk.res(W:Walk b H g0 S c me k K g ls w):au2 b H g0 S c me k K w:=⟨g,W.loc.out,W.nw,W.off,W.step,W.len⟩
def Walk.newL(W:Walk b H g0 S c me k K g ls w){ty:XN}{xs:Q AV}{r:Nat}(hc:xs.all AV.aU=Z0)(hr:r=K.next)(ht:ty<gW:=by decide):Walk b H g0 S c me k (K.new (.blk 0 ty xs)) g (iK ls r xs) w:=
 ⟨W.hb,W.loc.newL hc hr ht,W.nw,W.off,W.step.trans (Step.new _ W.loc.good.1),W.len⟩
def Walk.whole(W:Walk b H g0 S c me k K g ls w){r n:Nat}{xs vs:Q AV}(h:ls r=ZC xs)(d:xs.length=n)(e:vs.length=n)(i:0<n)(hv:vs.all AV.aU=Z0):
  ∃K',Proofs.YtgplhpgkompkmaaGreat.st n (.ref r 0 0) (.agg vs) K=ZC (aX,K')/\Proofs.YtgplhpgkompkmaaGreat.lda n (.ref r 0 0) K'=ZC (.agg vs,K')/\Walk b H g0 S c me k K' g (iK ls r vs) w:=by
 have⟨K',j,m,o,p⟩:=W.loc.whole W.base h d e i hv;exact⟨K',j,m,W.hb,o,W.nw,W.off,W.step.trans p,W.len⟩
def Walk.same(W:Walk b H g0 S c me k K g ls w)(G:Good b K' (lay g ls))(s:Step b K K'):Walk b H g0 S c me k K' g ls w:=⟨W.hb,⟨G,W.loc.free⟩,W.nw,W.off,W.step.trans s,W.len⟩
def Walk.aJ(W:Walk b H g0 S c me k K g ls w){ca:Cache}(G:Good b K' (upd (lay g ls) (S.a 1) (dD ca)))(s:Step b K K'):Walk b H g0 S c me k K' (upd g (S.a 1) (dD ca)) ls ({ w.1 with aJ:=ca },w.2):=
 ⟨W.hb,W.loc.call W.nw.bC.2.1 G,W.nw.aJ ca,W.off.trans (Off.arZ (DF J)),W.step.trans s,W.len⟩
def Walk.bU(W:Walk b H g0 S c me k K g ls w){p:Proc}(G:Good b K' (upd (lay g ls) (S.a 2) (qZ p)))(s:Step b K K'):Walk b H g0 S c me k K' (upd g (S.a 2) (qZ p)) ls ({ w.1 with bU:=p },w.2):=
 ⟨W.hb,W.loc.call W.nw.bC.2.2.1 G,W.nw.bU p,W.off.trans (Off.arZ (DF J)),W.step.trans s,W.len⟩
def Walk.own(W:Walk b H g0 S c me k K g ls w){d:bW}{num:Int}(G:Good b K' (upd (lay g ls) (S.a 0) (yN S.a c me d num)))(s:Step b K K'):Walk b H g0 S c me k K' (upd g (S.a 0) (yN S.a c me d num)) ls ({ w.1 with aO:=d,num:=num },w.2):=
 ⟨W.hb,W.loc.call W.nw.bC.1 G,W.nw.own d num,W.off.trans (Off.arZ (DF J)),W.step.trans s,W.len⟩
def Walk.home(W:Walk b H g0 S c me k K g ls w){h:Home}(G:Good b K' (lI (lay g ls) (S.a 4) (S.a 5) c h))(s:Step b K K'):Walk b H g0 S c me k K' (lI g (S.a 4) (S.a 5) c h) ls ({ w.1 with home:=h },w.2):=by
 have⟨j,e,i⟩:=W.nw.bC.2.2.2;refine⟨W.hb,W.loc.home e i G,W.nw.home h,W.off.trans (Off.arZ λq d=>?_),W.step.trans s,W.len⟩;unfold lI;rw[bF (d 5 J),bF (d 4 J)]
def Walk.trace(W:Walk b H g0 S c me k K g ls w){l:Q Evn}(G:Good b K' (upd (lay g ls) S.t (mM l)))(s:Step b K K'):Walk b H g0 S c me k K' (upd g S.t (mM l)) ls (w.1,w.2.1,l):=
 ⟨W.hb,W.loc.call W.nw.tr G,W.nw.trace l,W.off.trans (Off.upd (.inr (.inr Z3))),W.step.trans s,W.len⟩
def Walk.RN(W:Walk b H g0 S c me k K g ls w):NW (lay g ls) S c me w:=W.nw.sub W.loc.sub
def Walk.net(W:Walk b H g0 S c me k K g ls w){i:bG}{fab:Fab}(G:Good b K' i)(F:iG i S.f S.P c fab)(j:fab.l.length=w.2.1.l.length)(O:Off (Pz S.P w.2.1.l.length) (lay g ls) i)(s:Step b K K'):∃g',Walk b H g0 S c me k K' g' ls (w.1,fab,w.2.2):=by
 have⟨g',L,m,h⟩:=W.loc.net (T:=Pz S.P w.2.1.l.length) (λq d=>by have⟨l,r,e⟩:=W.nw.port d;rw[e];simp) G O;have n:∀{q cs},g q=ZC cs->ls q=none:=λe=>(W.loc.at_ e).2;have o:iG g' S.f S.P c fab:=F.same (h _ (n W.nw.fab.1)) λq d=>by
  rw[j]at d;have⟨l,r,e⟩:=W.nw.port d;exact h _ (n e)
 refine⟨g',W.hb,L,W.nw.net o j m,W.off.trans (m.mono λq d=>.inr (.inl (by rw[<-W.len];exact d))),W.step.trans s,by rw[<-W.len];exact j⟩
def Walk.app(W:Walk b H g0 S c me k K g ls w)(h:au2 b K (lay g ls) S c me k K' w'):∃g',Walk b H g0 S c me k K' g' ls w':=by
 have⟨n,G,N,O,s,i⟩:=h;have⟨g',L,j,h⟩:=W.loc.net (T:=ajw S k) (λq d=>W.nw.here (by rw[W.len];exact d)) G O;have m:∀q,g q≠Z1->ls q=none:=λq d=>by
  cases e:ls q with
  |none=>rfl
  |some xs=>exact absurd (W.loc.free q (by rw[e];simp)) d
 refine⟨g',W.hb,L,N.agree λq d=>h q (m q ?_),W.off.trans j,W.step.trans s,i⟩;rcases d with d|rfl
 ·exact W.nw.here (by rw[W.len,<-i];exact d)
 ·rw[W.nw.fab.1];simp
end
section
variable {b:Nat}{H:ah}{g0:bG}{S:Tv}{c:Cfg}{me:Int}{k:Nat}{K K':ah}{g:bG}{ls:Lcl}{w w':NFT}
structure PSz(p:Proc):Prop where
 ops:p.ops.length<1000
 vals:p.bI.length<=p.ops.length
def Walk.ldN(W:Walk b H g0 S c me k K g ls w){i:Nat}{v:AV}(hi:(OI S.a c me w.1.aO w.1.num)[i]?=ZC v):ld (.ref (S.a 0) 0 i) K=ZC (v,K):=
 W.loc.good.load (W.loc.obj W.nw.bC.1) (i:=i) (x:=v) (by rw[yN,List.getElem?_map,hi];rfl)
def Walk.ara(W:Walk b H g0 S c me k K g ls w){i n:Nat}{ys:Q AV}(hi:((OI S.a c me w.1.aO w.1.num).drop i).take n=ys)(d:ys.length=n)(e:0<n):lda n (.ref (S.a 0) 0 i) K=ZC (.agg ys,K):=
 W.loc.good.loads (W.loc.obj W.nw.bC.1) (i:=i) (n:=n) (xs:=ys) (by rw[yN,<-hi,List.map_take,List.map_drop]) d e
def Walk.cur(W:Walk b H g0 S c me k K g ls w)(d:PSz w.1.bU):∃K',cl 136 [.ref (S.a 2) 0 0] K=ZC (.tup [.agg w.1.bU.op.av,I w.1.bU.idx,B w.1.bU.cur.isSome],K')/\Walk b H g0 S c me k K' g ls w:=by
 have⟨K',e,h,i⟩:=alE W.loc.good W.base (W.loc.obj W.nw.bC.2.2.1) d.ops (by have:=d.vals;have:=d.ops;omega) d.vals;exact⟨K',e,W.same h i⟩
def Walk.pend(W:Walk b H g0 S c me k K g ls w)(d:PSz w.1.bU)(v:Int):∃r K' g',cl 187 [.ref (S.a 2) 0 0,I v] K=ZC (r,K')/\Walk b H g0 S c me k K' g' ls ({ w.1 with bU:=w.1.bU.Dc v },w.2):=by
 have⟨r,K',e,h,i⟩:=alD W.loc.good W.base (W.loc.obj W.nw.bC.2.2.1) (by have:=d.vals;have:=d.ops;omega) v;exact⟨r,K',_,e,W.bU h i⟩
def Walk.tend(W:Walk b H g0 S c me k K g ls w)(d:w.2.2.length<1000000)(n i v:Int):∃K' g',cl 188 [.ref S.t 0 0,I n,I i,I v] K=ZC (.tup [],K')/\Walk b H g0 S c me k K' g' ls (w.1,w.2.1,w.2.2++[⟨n,i,Z0,v⟩]):=by
 have⟨K',e,h,j⟩:=afT W.loc.good W.base (W.loc.obj W.nw.tr) d n i v;exact⟨K',_,e,W.trace h j⟩
def Walk.arb(W:Walk b H g0 S c me k K g ls w)(d:w.2.2.length<1000000)(n i:Int):∃K' g',cl 147 [.ref S.t 0 0,I n,I i] K=ZC (.tup [],K')/\Walk b H g0 S c me k K' g' ls (w.1,w.2.1,w.2.2++[⟨n,i,ZV,0⟩]):=by
 have⟨K',e,h,j⟩:=Y4 W.loc.good W.base (W.loc.obj W.nw.tr) d n i;exact⟨K',_,e,W.trace h j⟩
def Walk.avS(W:Walk b H g0 S c me k K g ls w)(C:COk w.1.aJ)(e:Ent){x:AV}(d:e.data.length<1000000000)(h:nH K x e.data):∃K' g',cl 191 [.ref (S.a 1) 0 0,.agg (e.avx x)] K=ZC (I (w.1.aJ.put e).2,K')/\Walk b H g0 S c me k K' g' ls ({ w.1 with aJ:=(w.1.aJ.put e).1 },w.2):=by
 have⟨K',i,j,m⟩:=XB W.loc.good W.base (W.loc.obj W.nw.bC.2.1) C.len C.sets C.clk e d h;exact⟨K',_,i,W.aJ j m⟩
def Walk.find(W:Walk b H g0 S c me k K g ls w)(C:COk w.1.aJ)(ak:Int):cl 41 [.ref (S.a 1) 0 0,I ak] K=ZC (jG (w.1.aJ.find ak),K):=
 nI W.loc.good (W.loc.obj W.nw.bC.2.1) C.len C.dat ak
def Walk.send(W:Walk b H g0 S c me k K g ls w)(F:FOk c w.2.1)(p:Pkt)(e:p.data.length<1000000000):∃K' g',cl 143 [.ref S.f 0 0,.agg p.av] K=ZC (I (w.2.1.send p).2,K')/\Walk b H g0 S c me k K' g' ls (w.1,(w.2.1.send p).1,w.2.2):=by
 have⟨K',q,h,i,j,m,n⟩:=alv W.loc.good W.base W.RN.fab W.nw.Xt F p e;have d:(w.2.1.send p).1.l.length=w.2.1.l.length:=by
  unfold Fab.send;split
  ·rfl
  ·split
   ·rfl
   ·simp[Fab.put]
 have⟨g',o⟩:=W.net i j d m n;exact⟨K',g',h,o⟩
def adb(W:Walk b H g0 S c me k K g ls w)(d:PSz w.1.bU)(o:w.2.2.length<1000000)(v:Int):
  ∃K' g',cl 137 [.ref (S.a 0) 0 0,.ref S.t 0 0,I v] K=ZC (.tup [],K')/\Walk b H g0 S c me k K' g' ls ((w.1.done me w.2.2 v).1,w.2.1,(w.1.done me w.2.2 v).2):=by
 have G:=W.loc.good;have e:=Walk.of G W.base W.RN;have p:=e.ldN (i:=1) (v:=.ref (S.a 2) 0 0) Z3;have⟨q,u,y⟩:=e.cur d;have z:=y.newL (ty:=61) (xs:=[zI,zI,zI]) (r:=q.next) Z3 Z3;have⟨Q,A,R,h⟩:=z.whole aj (n:=3) (vs:=w.1.bU.op.av) Z3 (eG _) (by decide) (mg _);have C:=h.ldN (i:=1) (v:=.ref (S.a 2) 0 0) Z3;have⟨r,T,X,D,j⟩:=h.pend d v;have E:=j.ldN (i:=10) (v:=I me) Z3;have⟨m,g5,F,L⟩:=j.tend o me w.1.bU.idx v;have⟨g',M⟩:=W.app (K':=m) (w':=((w.1.done me w.2.2 v).1,w.2.1,(w.1.done me w.2.2 v).2)) (by
  have:=L.res;rw[W.len]at this;exact this)
 refine⟨m,g',bg Z3 Z3 (aoZ _ _ _ _ _ ?_),M⟩;simp only[xq_,aii,p,u,A,C,D,E,F]
def Vm(W:Walk b H g0 S c me k K g ls w)(hc:c.ok=Z0)(F:FOk c w.2.1)(hd:w.1.aO.data.length<1000000000):
  ∃K' g',cl 139 [.ref (S.a 0) 0 0,.ref S.f 0 0] K=ZC (.tup [],K')/\Walk b H g0 S c me k K' g' ls (w.1,w.1.ame c me w.2.1,w.2.2):=by
 have G:=W.loc.good;have d:=Walk.of G W.base W.RN;have j:=d.ara (i:=12) (n:=9) (ys:=w.1.aO.av) Z3 Z3 J;have m:=d.ldN (i:=10) (v:=I me) Z3;have o:=d.ara (i:=2) (n:=8) (ys:=c.av) Z3 Z3 J;have p:=d.ldN (i:=13) (v:=I w.1.aO.ak) Z3;have q:=xw K.guard c hc w.1.aO.ak;have u:=aq6 K w.1.aO me (c.bf w.1.aO.ak) hd;have e:(w.1.aO.ask me (c.bf w.1.aO.ak)).data.length<1000000000:=by
  unfold bW.ask
  repeat' split
  all_goals first|exact hd|exact(show(0:Nat)<1000000000 by decide)
 have⟨h,C,y,z⟩:=d.send F (w.1.aO.ask me (c.bf w.1.aO.ak)) e;have⟨g',A⟩:=W.app (K':=h) (w':=(w.1,w.1.ame c me w.2.1,w.2.2)) (by
  have:=z.res;rw[W.len]at this;exact this)
 refine⟨h,g',bg Z3 Z3 (ao2 _ _ _ _ ?_),A⟩;simp only[Nat.reduceAdd,xq_,aij,j,m,o,p,q,u,y]
end
def alF {n:Nat}{x v r:AV}{H H':ah}(h:st n x v H=ZC (r,H')):H'.next=H.next:=by
 unfold st at h;split at h
 ·split at h
  ·split at h
   ·cases h;rfl
   ·cases h
  ·cases h
 ·cases h
def is0(H:ah)(e:Ent)(w:Int):cl0 222 [.agg e.av,I w] H=ZC (B (u (0<=w/\w<e.data.length)),H.new (.blk 0 100 e.av)):=by
 refine iT (ajb _ _ _ _ ?_);have d:=λH=>(gJ H e.data).lnS;by_cases b:0<=w
 ·simp only[Nat.reduceLT,xq_,hq_,QZ,aC,Ent.av,b,d]
 ·simp only[Nat.reduceLT,xq_,hq_,QZ,aC,Ent.av,b,false_and]
def ard(H:ah)(l:Q Int)(h:l≠[])(hl:l.length<1000000000):cl0 36 [dat l] H=ZC (.sl (H.next+1) 0 0 1 l.length l.length ZV,(H.new (.blk 0 3 [])).new (.blk 0 (3+gW) (l.map I))):=by
 have h0:l.length≠0:=λe=>h (List.eq_nil_of_length_eq_zero e);have e2:=tZ (e:=3) (by_:=8) (r:=H.next) (H:=H.new (.blk 0 3 [])) qH (gJ _ l) (yh l) h0 (by unfold most;omega) (by unfold most;omega);simp only[eu]at e2;have e1:bi .eql 22 (dat l) zN=ZC (B ZV):=by rw[qN h];exact uf Tryz.underlying22
 refine iT (ae7 _ _ _ ?_);simp only[xq_,abd,e1,ND,zF,e2,Nat.zero_mul,Nat.zero_le]
section
variable {b:Nat}{H:ah}{g0:bG}{S:Tv}{c:Cfg}{me:Int}{k:Nat}{K K':ah}{g:bG}{ls:Lcl}{w w':NFT}
def Walk.new(W:Walk b H g0 S c me k K g ls w)(o:gG):Walk b H g0 S c me k (K.new o) g ls w:=⟨W.hb,W.loc.new o,W.nw,W.off,W.step.trans (Step.new _ W.loc.good.1),W.len⟩
def O5 {args:Q AV}{r:AV × ah}(h:cl0 190 args K=ZC r):cl 190 args K=ZC r:=zq (p:=cl0 190) W h
def Walk.write(W:Walk b H g0 S c me k K g ls w){r:Nat}{e:Ent}(h:ls r=some e.av)(he:e.data.length<1000000000)(i v:Int):
  ∃res K' x,cl 190 [.ref r 0 0,I i,I v] K=some (res,K')/\nH K' x (e.write i v).data/\Walk b H g0 S c me k K' g (iK ls r ((e.write i v).avx x)) w:=by
 have same:iK ls r e.av=ls:=by
  funext x;simp only[iK];split
  ·rename_i hx;rw[hx,h]
  ·rfl
 have hr:r<K.next:=W.loc.good.lt (pU h)
 have l4:=W.loc.ld h (i:=4) (v:=B e.bJ) rfl;cases hd:e.bJ with
 |false=>
  have hm:e.write i v=e:=by unfold Ent.write;rw[if_neg (by simp[hd])]
  rw[hm];rw[hd]at l4;refine⟨B false,K,dat e.data,O5 (iT (abL _ _ _ _ _ ?_)),qc _ _,by
   have:e.avx (dat e.data)=e.av:=rfl;rw[this,same];exact W⟩
  simp only[xq_,Xd,l4,Bool.not_false]
 |true=>
  rw[hd]at l4;have la:=W.loc.lda h (i:=0) (n:=6) (ys:=e.av) rfl rfl (by decide);have e1:=is0 K e i;have W1:=W.new (.blk 0 100 e.av);by_cases hi:0<=i/\i<e.data.length
  ·have hm:e.write i v={ e with data:=e.data.set i.toNat v }:=by unfold Ent.write;rw[if_pos ⟨hd,hi⟩]
   have hne:e.data≠[]:=λh0=>by rw[h0]at hi;simp at hi;omega
   have e2:=ard (K.new (.blk 0 100 e.av)) e.data hne he;simp only[eu]at e2;have l5:=W1.loc.ld h (i:=5) (v:=dat e.data) rfl;let y:AV:=.sl (K.next+1+1) 0 0 1 e.data.length e.data.length false;obtain⟨K3,u1,L3,s3⟩:=W.loc.st W.base h (i:=5) (v:=y) (by simp[Ent.av]) vZ;have nx:=alF u1;let o1:gG:=.blk 0 100 e.av;let o2:gG:=.blk 0 3 [];let o3:gG:=.blk 0 (3+gW) (e.data.map I);have u2:st 1 (.ref r 0 5) y (((K.new o1).new o2).new o3)=some (aX,((K3.new o1).new o2).new o3):=by
    rw[Qx (by rw[eu,eu];omega),Qx (by rw[eu];omega),Qx hr,u1];rfl
   have L4:=((L3.new o1).new o2).new o3;have l5':=L4.ld aj (i:=5) (v:=y) (by simp[Ent.av]);have hn2:((K3.new o1).new o2).next=K.next+1+1:=by rw[eu,eu,nx]
   have hs:aH (((K3.new o1).new o2).new o3) y 1 e.data.length (e.data.map I):=by
    have:=jZ (e:=3+gW) (m:=1) (n:=e.data.length) (l:=e.data.map I) (H:=(K3.new o1).new o2) (ex:=false) (by simp);rw[hn2]at this;exact this
   have ex:=hs.ix (k:=.i64) (i:=i) hi.1 hi.2;have ep:eH y i.toNat=.ref (K.next+1+1) 0 i.toNat:=by simp[y,eH]
   rw[ep]at ex;have u3:st 1 (.ref (K.next+1+1) 0 i.toNat) (I v) (((K3.new o1).new o2).new o3)=some (aX,((K3.new o1).new o2).new (.blk 0 (3+gW) ((e.data.set i.toNat v).map I))):=by
    rw[pR hn2.symm];have hbK:((K3.new o1).new o2).base<=K.next+1+1:=by
     rw[iO,iO,s3.base];have:=W.base;have:=W.loc.good.1;omega
    have hset:aI (e.data.map I) i.toNat (I v).cells=(e.data.set i.toNat v).map I:=by
     rw[show(I v).cells=[I v]from rfl];have hlt:i.toNat<(e.data.map I).length:=by simp;omega
     unfold aI;rw[List.map_set,List.set_eq_take_append_cons_drop,if_pos hlt];simp
    rw[hset,if_pos ⟨hbK,rfl,rfl,by rw[show(I v).cells=[I v]from rfl];simp only[List.length_map,List.length_cons,List.length_nil];omega⟩]
   refine⟨B true,((K3.new o1).new o2).new (.blk 0 (3+gW) ((e.data.set i.toNat v).map I)),y,O5 (iT (abL _ _ _ _ _ ?_)),?_,?_⟩;rotate_left
   ·rw[hm];have:=jZ (e:=3+gW) (m:=1) (n:=(e.data.set i.toNat v).length) (l:=(e.data.set i.toNat v).map I) (H:=(K3.new o1).new o2) (ex:=false) (by simp);rw[hn2]at this;rw[List.length_set]at this;refine⟨?_,vZ,λh0=>?_⟩
    ·simp only[List.length_set];exact this
    ·have:=congrArg List.length h0;simp at this;exact absurd this hne
   ·rw[hm];have L5:=((L3.new o1).new o2).new (.blk 0 (3+gW) ((e.data.set i.toNat v).map I));have hx:(e.av.set 5 y)=({ e with data:=e.data.set i.toNat v }:Ent).avx y:=rfl;rw[hx]at L5;exact⟨W.hb,L5,W.nw,W.off,((((W.step.trans s3).trans (Step.new _ L3.good.1)).trans (Step.new _ (L3.new o1).good.1)).trans (Step.new _ ((L3.new o1).new o2).good.1)),W.len⟩
   ·simp only[o1,o2,o3,y]at u2 l5' ex u3;rw[decide_eq_true hi]at e1;simp only[xq_,Xd,l4,la,e1,Bool.not_true,l5,e2,u2,l5',ex,u3];rfl
  ·have hm:e.write i v=e:=by unfold Ent.write;rw[if_neg (λh=>hi h.2)]
   rw[hm];refine⟨B false,_,dat e.data,O5 (iT (abL _ _ _ _ _ ?_)),qc _ _,by
    have:e.avx (dat e.data)=e.av:=rfl;rw[this,same];exact W1⟩
   rw[decide_eq_false hi]at e1;simp only[xq_,Xd,l4,la,e1,Bool.not_true,Bool.not_false]
end
section
variable {b:Nat}{H:ah}{g0:bG}{S:Tv}{c:Cfg}{me:Int}{k:Nat}{K K':ah}{g:bG}{ls:Lcl}{w w':NFT}
def alG(W:Walk b H g0 S c me k K g ls w)(A:PSz w.1.bU)(C:COk w.1.aJ)(D:w.2.2.length<1000000){r4 p:Nat}{o:Opn}{e:Ent}{x:AV}(E:ls r4=ZC o.av)(F:ls p=ZC (e.avx x))(G:e.data.length<1000000000)(L:nH K x e.data)(d:Int):
  ∃K' g',vG cl (.ref (S.a 0) 0 0) (.ref S.t 0 0) (.ref r4 0 0) (.ref p 0 0) (I d) K=ZC (.tup [],K')/\
   Walk b H g0 S c me k K' g' ls ((({ w.1 with aJ:=(w.1.aJ.put e).1 }:Node).done me w.2.2 (if o.aW=2 then 0 else d)).1,w.2.1,(({ w.1 with aJ:=(w.1.aJ.put e).1 }:Node).done me w.2.2 (if o.aW=2 then 0 else d)).2):=by
 have q:=W.ldN (i:=0) (v:=.ref (S.a 1) 0 0) Z3;have u:=W.loc.lda F (i:=0) (n:=6) (ys:=e.avx x) Z3 Z3 J;have⟨T,X,y,z⟩:=W.avS C e G L;have m:=z.loc.ld E (i:=0) (v:=I o.aW) Z3;have⟨M,Q,h,R⟩:=adb z A D (if o.aW=2 then 0 else d);refine⟨M,Q,?_,R⟩;by_cases j:o.aW=2
 ·rw[j]at m;rw[YY j]at h;simp only[xq_,vG,Fq,q,u,y,m,h]
 ·rw[Ys j]at h;simp only[xq_,vG,Fq,q,u,y,m,j,h]
def RP(W:Walk b H g0 S c me k K g ls w)(hc:c.ok=Z0)(hp:PSz w.1.bU)(C:COk w.1.aJ)(hl:w.2.2.length<1000000):
  ∃K' g',cl 138 [.ref (S.a 0) 0 0,.ref S.t 0 0] K=ZC (.tup [],K')/\Walk b H g0 S c me k K' g' ls ((w.1.effect c me w.2.2).1,w.2.1,(w.1.effect c me w.2.2).2):=by
 have W0:=Walk.of W.loc.good W.base W.RN;have⟨o,ho⟩:∃o,w.1.bU.op=o:=⟨_,Z3⟩
 have⟨wi,hwi⟩:∃wi,c.dH o.addr=wi:=⟨_,Z3⟩
 have⟨e,hee⟩:∃e,(w.1.aJ.find (c.bZ o.addr)).getD .zero=e:=⟨_,Z3⟩
 have hed:e.data.length<1000000000:=by
  rw[<-hee];cases hf:w.1.aJ.find (c.bZ o.addr)with
  |none=>exact(show(0:Nat)<1000000000 by decide)
  |some e'=>exact C.dat e' (List.mem_of_find?_eq_some hf)
 have l1:=W0.ldN (i:=1) (v:=.ref (S.a 2) 0 0) Z3;have⟨K1,a1,W1⟩:=W0.cur hp;have W2:=W1.newL (ty:=61) (xs:=[zI,zI,zI]) (r:=K1.next) Z3 Z3;have⟨K3,b1,b2,W3⟩:=W2.whole aj (n:=3) (vs:=o.av) Z3 (eG _) (by decide) (mg _);have lc:=W3.ara (i:=2) (n:=8) (ys:=c.av) Z3 Z3 (by decide);have k3:iK (iK noL K1.next [zI,zI,zI]) K1.next o.av K1.next=ZC o.av:=aj
 have la:=W3.loc.ld k3 (i:=1) (v:=I o.addr) Z3;have el:=I5 K3 c hc o.addr;rw[hwi]at el;have l0:=W3.ldN (i:=0) (v:=.ref (S.a 1) 0 0) Z3;have ef:=W3.find C (c.bZ o.addr);simp only[jG]at ef;rw[hee]at ef;have n3:K1.next<K3.next:=W3.loc.good.lt (pU (g:=lay g ls) k3)
 have W4:=W3.newL (ty:=100) (xs:=[zI,zI,zI,zI,zB,zN]) (r:=K3.next) Z3 Z3;have⟨K5,c1,c2,W5⟩:=W4.whole aj (n:=6) (vs:=e.av) Z3 Z3 (by decide) (jR e);have ew:=ale K5 e wi;have k9:iK (iK (iK (iK noL K1.next [zI,zI,zI]) K1.next o.av) K3.next [zI,zI,zI,zI,zB,zN]) K3.next e.av K3.next=ZC e.av:=aj
 have k4:iK (iK (iK (iK noL K1.next [zI,zI,zI]) K1.next o.av) K3.next [zI,zI,zI,zI,zB,zN]) K3.next e.av K1.next=ZC o.av:=by rw[aB (by omega),aB (by omega)];exact k3
 have lk:=W5.loc.ld k4 (i:=0) (v:=I o.aW) Z3;have lv:=W5.loc.ld k4 (i:=2) (v:=I o.value) Z3;have hm:w.1.effect c me w.2.2=({ w.1 with aJ:=(w.1.aJ.put (fA e o wi)).1 }:Node).done me w.2.2 (if o.aW=2 then 0 else e.word wi):=by
  simp only[Node.effect,ho,hee,hwi]
 rw[ho]at a1
 -- a word is written,or Z1
 have key:∀{K6:ah} {ls6:Lcl} {x:AV},Walk b K (lay g ls) S c me w.2.1.l.length K6 (lay g ls) ls6 w->ls6 K1.next=ZC o.av->ls6 K3.next=ZC ((fA e o wi).avx x)->nH K6 x (fA e o wi).data->
   ∃K' g',vG cl (.ref (S.a 0) 0 0) (.ref S.t 0 0) (.ref K1.next 0 0) (.ref K3.next 0 0) (I (e.word wi)) K6=ZC (.tup [],K')/\Walk b H g0 S c me k K' g' ls ((w.1.effect c me w.2.2).1,w.2.1,(w.1.effect c me w.2.2).2):=by
  intro K6 ls6 x W6 h4 h9 hx;have⟨K7,g7,r1,W7⟩:=alG W6 hp C hl h4 h9 (by rw[(qU e o wi).2.2.2];exact hed) hx (e.word wi);rw[<-hm]at W7;have⟨g',W'⟩:=W.app (K':=K7) (w':=((w.1.effect c me w.2.2).1,w.2.1,(w.1.effect c me w.2.2).2)) (by
   have:=W7.res;rw[W.len]at this;exact this)
  exact⟨K7,g',r1,W'⟩
 by_cases h2:o.aW=2
 ·have⟨res,K6,x,d1,hx,W6⟩:=W5.write k9 hed wi o.value;have he:fA e o wi=e.write wi o.value:=by unfold fA;rw[y h2]
  have⟨K7,g',r1,W'⟩:=key W6 (by rw[aB (by omega)];exact k4) (by rw[aj,he]) (by rw[he];exact hx);refine⟨K7,g',bg Z3 Z3 (abv _ _ _ _ ?_),W'⟩;rw[h2]at lk;simp only[Int.reduceEq,xq_,WO,l1,a1,b1,lc,la,el,l0,ef,c1,c2,ew,lk,lv,d1,r1]
 ·by_cases h3:o.aW=3
  ·have⟨res,K6,x,d1,hx,W6⟩:=W5.write k9 hed wi (w64 (e.word wi+o.value));have he:fA e o wi=e.write wi (w64 (e.word wi+o.value)):=by unfold fA;rw[F h2,y h3]
   have⟨K7,g',r1,W'⟩:=key W6 (by rw[aB (by omega)];exact k4) (by rw[aj,he]) (by rw[he];exact hx);refine⟨K7,g',bg Z3 Z3 (abv _ _ _ _ ?_),W'⟩;rw[h3]at lk;simp only[w64]at d1;simp only[Int.reduceEq,xq_,WO,l1,a1,b1,lc,la,el,l0,ef,c1,c2,ew,lk,lv,bM,d1,r1]
  ·have he:fA e o wi=e:=by unfold fA;rw[F h2,F h3]
   have⟨K7,g',r1,W'⟩:=key (x:=dat e.data) W5 k4 (by rw[he];exact k9) (by rw[he];exact qc _ _);refine⟨K7,g',bg Z3 Z3 (abv _ _ _ _ ?_),W'⟩;simp only[xq_,WO,l1,a1,b1,lc,la,el,l0,ef,c1,c2,ew,lk,h2,h3,r1]
def afW(W:Walk b H g0 S c me k K g ls w)(C:COk w.1.aJ)(hd:w.1.aO.data.length<1000000000)(p:Pkt)(hpl:p.data.length<1000000000):
  ∃K' g',cl 135 [.ref (S.a 0) 0 0,.agg p.av] K=ZC (uH (w.1.after me p),K')/\Walk b H g0 S c me k K' g' ls ({ w.1 with aJ:=(w.1.after me p).1 },w.2):=by
 have W0:=Walk.of W.loc.good W.base W.RN;have W1:=W0.newL (ty:=81) (xs:=p.av) (r:=K.next) (aV p) Z3;have W2:=W1.newL (ty:=73) (xs:=zD9) (r:=K.next+1) Z3 (by rw[eu]);have k3:iK (iK noL K.next p.av) (K.next+1) zD9 K.next=ZC p.av:=by rw[aB (by omega),aj]
 have lk:=W2.ldN (i:=12) (v:=I w.1.aO.aW) Z3;have ld:=W2.ara (i:=12) (n:=9) (ys:=w.1.aO.av) Z3 Z3 (by decide);have li:=W2.ldN (i:=10) (v:=I me) Z3;have lc:=W2.ldN (i:=0) (v:=.ref (S.a 1) 0 0) Z3;have lp:=W2.loc.lda k3 (i:=0) (n:=9) (ys:=p.av) Z3 Z3 (by decide);have hcache:=W2.loc.obj W2.nw.bC.2.1
 -- the end
 have fin:∀{K3:ah} {r:Nxt},Good b K3 (upd (lay (lay g ls) (iK (iK noL K.next p.av) (K.next+1) zD9)) (S.a 1) (dD r.1))->Step b ((K.new (.blk 0 81 p.av)).new (.blk 0 73 zD9)) K3->w.1.after me p=r->
   ∃K' g',st 9 (.ref (K.next+1) 0 0) (.agg r.2.1.av) K3=ZC (aX,K')/\lda 9 (.ref (K.next+1) 0 0) K'=ZC (.agg r.2.1.av,K')/\Walk b H g0 S c me k K' g' ls ({ w.1 with aJ:=(w.1.after me p).1 },w.2):=by
  intro K3 r G s hr;have W3:=W2.aJ G s;have⟨K4,u1,u2,W4⟩:=W3.whole (r:=K.next+1) (xs:=zD9) aj (n:=9) (vs:=r.2.1.av) Z3 Z3 (by decide) (bH _);have⟨g',W'⟩:=W.app (K':=K4) (w':=({ w.1 with aJ:=(w.1.after me p).1 },w.2)) (by
   have:=W4.res;rw[W.len]at this;rw[hr];exact this)
  exact⟨K4,g',u1,u2,W'⟩
 by_cases h1:w.1.aO.aW=1
 ·have hm:w.1.after me p=dW w.1.aO me w.1.aJ p:=by unfold Node.after;rw[y h1]
  have⟨K3,a1,a2,a3⟩:=ac5 W2.loc.good W2.base hcache C w.1.aO me p hpl;have⟨K4,g',u1,u2,W'⟩:=fin a2 a3 hm;refine⟨K4,g',bg Z3 Z3 (WM _ _ _ _ ?_),W'⟩;rw[h1]at lk;rw[hm];simp only[uH]at a1 ⊢;simp only[Nat.reduceLT,Int.reduceEq,xq_,QT,aC (aV p),lk,ld,li,lc,lp,a1,u1,u2]
 ·by_cases h2:w.1.aO.aW=2
  ·have hm:w.1.after me p=dY w.1.aO me w.1.aJ p:=by unfold Node.after;rw[F h1,y h2]
   have⟨K3,a1,a2,a3⟩:=afS W2.loc.good W2.base hcache C w.1.aO me p hd hpl;have⟨K4,g',u1,u2,W'⟩:=fin a2 a3 hm;refine⟨K4,g',bg Z3 Z3 (WM _ _ _ _ ?_),W'⟩;rw[h2]at lk;rw[hm];simp only[uH]at a1 ⊢;simp only[Nat.reduceLT,Int.reduceEq,xq_,QT,aC (aV p),lk,ld,li,lc,lp,a1,u1,u2]
  ·by_cases h3:w.1.aO.aW=3
   ·have hm:w.1.after me p=eP w.1.aO w.1.aJ p:=by unfold Node.after;rw[F h1,F h2,y h3]
    have⟨K3,a1,a2,a3⟩:=alC W2.loc.good W2.base hcache C w.1.aO p me;have⟨K4,g',u1,u2,W'⟩:=fin a2 a3 hm;refine⟨K4,g',bg Z3 Z3 (WM _ _ _ _ ?_),W'⟩;rw[h3]at lk;rw[hm];simp only[uH]at a1 ⊢;simp only[Nat.reduceLT,Int.reduceEq,xq_,QT,aC (aV p),lk,ld,li,lc,lp,a1,u1,u2]
   ·have hm:w.1.after me p=yJ w.1.aJ:=by unfold Node.after;rw[F h1,F h2,F h3]
    have⟨K4,g',u1,u2,W'⟩:=fin (r:=yJ w.1.aJ) (by rw[show(yJ w.1.aJ).1=w.1.aJ from Z3,fP hcache];exact W2.loc.good) (Step.refl _ _) hm;refine⟨K4,g',bg Z3 Z3 (WM _ _ _ _ ?_),W'⟩;rw[hm];have ez:bd 73 []=ZC (.agg zD9):=by simp only[xq_,aaA,jf,dX]
    have hz:(yJ w.1.aJ).2.1.av=zD9:=lU;rw[hz]at u1 u2;simp only[uH,hz];simp only[Nat.reduceLT,xq_,QT,aC (aV p),lk,h1,h2,h3,ez,u1,u2];rfl
end
def Node.evs(n:Node):Nat:=2*n.bU.bI.length+(if n.bU.fD then 1 else 0)
def ade {c:Cfg}{d:bW}(h:d.data=[]∨pG c d.data)(me home:Int):(d.ask me home).ok=Z0->yK c (d.ask me home):=by
 intro hk;have num:∀v∈d.data,I64 v:=by
  rcases h with h|h
  ·rw[h];intro v hv;cases hv
  ·exact h.2
 refine⟨hk,?_,?_⟩
 ·unfold bW.ask
  repeat' split
  all_goals (simp[Pkt.zero])
 ·unfold bW.ask
  repeat' split
  all_goals first|exact num|(intro v hv;cases hv)
def yw {c:Cfg}{p:Pkt}(hd:p.data=[])(hk:¬(p.aW=7∨p.aW=9)):p.ok=Z0->yK c p:=λh=>⟨h,λe=>absurd e hk,by rw[hd];intro v hv;cases hv⟩
def afX {c:Cfg}{dS:Rows}(b:∀e∈dS,pG c e.2.data){ak state head:Int}{data:Q Int}(hd:∀v∈data,I64 v):∀e∈(jr c dS ak state head data).1,pG c e.2.data:=by
 unfold jr;cases ha:jw dS ak with
 |none=>exact b
 |some r=>
  simp only;split
  ·exact b
  ·split
   ·exact b
   ·rename_i i g;intro e d;rcases rQ d with rfl|d
    ·simp only;split
     ·exact b _ (rP ha)
     ·rename_i h;simp only[Bool.or_eq_true,Bool.and_eq_true,zab,not_or,not_and,Decidable.not_not]at g;exact⟨g.2 h,hd⟩
    ·exact b e d
def Vo {c:Cfg}{me:Int}{h:Home}(b:∀e∈h.dS,pG c e.2.data){p:Pkt}(hd:∀v∈p.data,I64 v):∀e∈(h.handle c me p).1.dS,pG c e.2.data:=by
 unfold Home.handle;split
 ·exact b
 split
 ·exact b
 split
 ·simp only;split <;> exact b
 ·have key:∀e∈(h.unlock c p).1.dS,pG c e.2.data:=by
   unfold Home.unlock;have d:∀v∈(if p.flag=Z0 then p.data else []),I64 v:=by
    split
    ·exact hd
    ·intro v hv;cases hv
   generalize (if p.flag=Z0 then p.data else [])=dat at d ⊢;split
   ·exact b
   ·simp only;split
    ·exact afX b d
    ·exact b
  simp only;split <;> exact key
def adf {c:Cfg}{ca:Cache}(I:Fb c ca)(p:Pkt):Fb c (fQ ca p).1/\((fQ ca p).2.1.ok=Z0->yK c (fQ ca p).2.1)/\(fQ ca p).1.dN=ca.dN/\∀(ak:Int),c.ok=Z0->ca.full ak=ZV->(fQ ca p).1.full ak=false:=by
 unfold fQ;have z:Pkt.zero.ok=Z0->yK c Pkt.zero:=yw W (by simp[Pkt.zero]);split
 ·exact⟨I,z,W,λ_ _ h=>h⟩
 rename_i j;cases i:ca.find p.ak with
 |none=>exact⟨I,z,W,λ_ _ h=>h⟩
 |some e=>
  have⟨m,n⟩:=(ji I.aT).1 i;have E:=I.ent e m;simp only[Bool.or_eq_true,Bool.not_eq_true',not_or,Bool.not_eq_false,zab]at j;have put:∀b:Ent,b.ak=e.ak->b.data=e.data->Fb c (ca.put b).1/\(ca.put b).1.dN=ca.dN/\∀ak,ca.full ak=ZV->(ca.put b).1.full ak=false:=λb d o=>by
   have g:ca.find b.ak=ZC e:=by rw[d,n];exact i
   refine⟨I.put (by rw[d];exact E.lo) (by rw[d];exact E.hi) (by rw[o];exact E.dat),by rw[nD I.aT (by rw[d];exact E.lo) g],λak h=>?_⟩;rw[aeX I.aT (by rw[d];exact E.lo) g];exact h
  simp only;split
  ·rename_i k;have u:=put { e with bJ:=ZV,back:=p.ptr } W W;exact⟨u.1,λh=>⟨h,λ_=>E.dat,E.dat.2⟩,u.2.1,λl _ h=>u.2.2 l h⟩
  split
  ·rename_i k;have u:=put { e with fwd:=p.ptr } W W;exact⟨u.1,yw W (by simp only[k];decide),u.2.1,λl _ h=>u.2.2 l h⟩
  split
  ·rename_i k;have u:=put { e with back:=p.ptr } W W;exact⟨u.1,yw W (by simp only[k];decide),u.2.1,λl _ h=>u.2.2 l h⟩
  ·exact⟨I.drop _,λh=>⟨h,λ_=>E.dat,E.dat.2⟩,DC _ _,λl hc h=>aaU hc I h⟩
end
end Go.Proofs.YtgplhpgkompkmaaGreat
