/-
  Own work: an interpreter over named blocks, its soundness, and what the functions of this seat compute (part 9 of 12).
  Conditions: those of the statement alone.
-/
import Derived.Shelf.SlGeneric
import Derived.Ground.SlgmProg
import Derived.Ground.GgzProg
import Derived.Shelf.SortM.SortNone
import Derived.Shelf.SortM.Plain
import Derived.Shelf.SlIterI.Nil
import Derived.Test.YtgplhpgkompkmaaGreatProg
import Derived.KernelRfl
import Derived.Test.YtgplhpgkompkmaaGreatJh
set_option linter.all false
set_option linter.unusedSectionVars false
set_option linter.unusedVariables false
set_option linter.unusedSimpArgs false
namespace Go.Proofs
open Go.Shelf
def Tryz.sortedA_ren:Go.Shelf.Ren:=⟨fun|6=>45|8=>86|9=>73|11=>127|13=>118|12=>117|23=>171|24=>172|14=>162|15=>163|16=>164|17=>165|18=>166|19=>167|20=>168|21=>169|22=>170|25=>205|26=>206|27=>207|28=>208|29=>209|30=>210|31=>233|n=>n,fun|26=>3|28=>109|24=>22|0=>0|3=>3|37=>203|48=>260|50=>262|4=>4|40=>254|39=>253|45=>215|5=>5|9=>9|51=>304|55=>308|57=>324|58=>84|33=>140|n=>n,fun|n=>n⟩
def Tryz.sortedA:Go.Proofs.SlLaysZI.n6 Tryz.prog Tryz.sortedA_ren:={
 mixed:=by kernel_rfl
 f6:=⟨Tryz.f45.name,by decide,Tryz.func45.trans (congrArg some (by kernel_rfl))⟩
 f8:=⟨Tryz.f86.name,by decide,Tryz.func86.trans (congrArg some (by kernel_rfl))⟩
 f11:=⟨Tryz.f127.name,by decide,Tryz.func127.trans (congrArg some (by kernel_rfl))⟩
 t0:=Tryz.underlying0
 a0:=Tryz.isAgg0
 z0:=Tryz.sizeOf0
 v0:=Tryz.zeroValue0
 t24:=Tryz.underlying22
 a24:=Tryz.isAgg22
 z24:=Tryz.sizeOf22
 v24:=Tryz.zeroValue22
 t26:=Tryz.underlying3
 a26:=Tryz.isAgg3
 z26:=Tryz.sizeOf3
 v26:=Tryz.zeroValue3
 t28:=Tryz.underlying109
 a28:=Tryz.isAgg109
 z28:=Tryz.sizeOf109
 v28:=Tryz.zeroValue109
 i26:=by kernel_rfl }
def Tryz.keysA_ren:Go.Shelf.Ren:=⟨fun|7=>224|10=>239|n=>n,fun|23=>216|26=>3|3=>320|28=>109|0=>0|27=>108|33=>140|4=>4|n=>n,fun|n=>n⟩
def Tryz.keysA:Go.Proofs.SlLaysZI.n7 Tryz.prog Tryz.keysA_ren:={
 mixed:=by kernel_rfl
 f7:=⟨Tryz.f224.name,by decide,Tryz.func224.trans (congrArg some (by kernel_rfl))⟩
 f10:=⟨Tryz.f239.name,by decide,Tryz.func239.trans (congrArg some (by kernel_rfl))⟩
 t0:=Tryz.underlying0
 a0:=Tryz.isAgg0
 z0:=Tryz.sizeOf0
 v0:=Tryz.zeroValue0
 t4:=Tryz.underlying4
 a4:=Tryz.isAgg4
 z4:=Tryz.sizeOf4
 v4:=Tryz.zeroValue4
 t23:=Tryz.underlying216
 a23:=Tryz.isAgg216
 z23:=Tryz.sizeOf216
 v23:=Tryz.zeroValue216
 t26:=Tryz.underlying3
 a26:=Tryz.isAgg3
 z26:=Tryz.sizeOf3
 v26:=Tryz.zeroValue3
 t27:=Tryz.underlying108
 a27:=Tryz.isAgg108
 z27:=Tryz.sizeOf108
 v27:=Tryz.zeroValue108
 t28:=Tryz.underlying109
 a28:=Tryz.isAgg109
 z28:=Tryz.sizeOf109
 v28:=Tryz.zeroValue109
 t33:=Tryz.underlying140
 a33:=Tryz.isAgg140
 z33:=Tryz.sizeOf140
 v33:=Tryz.zeroValue140 }
def Tryz.sortA_ren:Go.Shelf.Ren:=⟨fun|5=>73|8=>118|7=>117|19=>171|20=>172|10=>162|11=>163|12=>164|13=>165|14=>166|15=>167|16=>168|17=>169|18=>170|30=>205|31=>206|32=>207|33=>208|34=>209|35=>210|40=>233|n=>n,fun|23=>22|25=>3|3=>3|32=>203|22=>22|0=>0|44=>260|46=>262|4=>4|36=>254|35=>253|41=>215|5=>5|9=>9|53=>304|57=>308|63=>324|64=>84|n=>n,fun|n=>n⟩
def Tryz.sortA:Go.Proofs.SlLaysM.n5 Tryz.prog Tryz.sortA_ren:={
 mixed:=by kernel_rfl
 f5:=⟨Tryz.f73.name,by decide,Tryz.func73.trans (congrArg some (by kernel_rfl))⟩
 f7:=⟨Tryz.f117.name,by decide,Tryz.func117.trans (congrArg some (by kernel_rfl))⟩
 f8:=Tryz.func118.trans (congrArg some (by kernel_rfl))
 f10:=⟨Tryz.f162.name,by decide,Tryz.func162.trans (congrArg some (by kernel_rfl))⟩
 f11:=⟨Tryz.f163.name,by decide,Tryz.func163.trans (congrArg some (by kernel_rfl))⟩
 f12:=⟨Tryz.f164.name,by decide,Tryz.func164.trans (congrArg some (by kernel_rfl))⟩
 f13:=⟨Tryz.f165.name,by decide,Tryz.func165.trans (congrArg some (by kernel_rfl))⟩
 f14:=⟨Tryz.f166.name,by decide,Tryz.func166.trans (congrArg some (by kernel_rfl))⟩
 f15:=⟨Tryz.f167.name,by decide,Tryz.func167.trans (congrArg some (by kernel_rfl))⟩
 f16:=⟨Tryz.f168.name,by decide,Tryz.func168.trans (congrArg some (by kernel_rfl))⟩
 f17:=⟨Tryz.f169.name,by decide,Tryz.func169.trans (congrArg some (by kernel_rfl))⟩
 f18:=⟨Tryz.f170.name,by decide,Tryz.func170.trans (congrArg some (by kernel_rfl))⟩
 f19:=Tryz.func171.trans (congrArg some (by kernel_rfl))
 f20:=Tryz.func172.trans (congrArg some (by kernel_rfl))
 f30:=⟨Tryz.f205.name,by decide,Tryz.func205.trans (congrArg some (by kernel_rfl))⟩
 f31:=Tryz.func206.trans (congrArg some (by kernel_rfl))
 f32:=Tryz.func207.trans (congrArg some (by kernel_rfl))
 f33:=⟨Tryz.f208.name,by decide,Tryz.func208.trans (congrArg some (by kernel_rfl))⟩
 f34:=⟨Tryz.f209.name,by decide,Tryz.func209.trans (congrArg some (by kernel_rfl))⟩
 f35:=⟨Tryz.f210.name,by decide,Tryz.func210.trans (congrArg some (by kernel_rfl))⟩
 f40:=⟨Tryz.f233.name,by decide,Tryz.func233.trans (congrArg some (by kernel_rfl))⟩
 t0:=Tryz.underlying0
 a0:=Tryz.isAgg0
 z0:=Tryz.sizeOf0
 v0:=Tryz.zeroValue0
 t3:=Tryz.underlying3
 a3:=Tryz.isAgg3
 z3:=Tryz.sizeOf3
 v3:=Tryz.zeroValue3
 t4:=Tryz.underlying4
 a4:=Tryz.isAgg4
 z4:=Tryz.sizeOf4
 v4:=Tryz.zeroValue4
 t5:=Tryz.underlying5
 a5:=Tryz.isAgg5
 z5:=Tryz.sizeOf5
 v5:=Tryz.zeroValue5
 t9:=Tryz.underlying9
 a9:=Tryz.isAgg9
 z9:=Tryz.sizeOf9
 v9:=Tryz.zeroValue9
 t22:=Tryz.underlying22
 a22:=Tryz.isAgg22
 z22:=Tryz.sizeOf22
 v22:=Tryz.zeroValue22
 t23:=Tryz.underlying22
 a23:=Tryz.isAgg22
 z23:=Tryz.sizeOf22
 v23:=Tryz.zeroValue22
 t25:=Tryz.underlying3
 a25:=Tryz.isAgg3
 z25:=Tryz.sizeOf3
 v25:=Tryz.zeroValue3
 t32:=Tryz.underlying203
 a32:=Tryz.isAgg203
 z32:=Tryz.sizeOf203
 v32:=Tryz.zeroValue203
 t35:=Tryz.underlying253
 a35:=Tryz.isAgg253
 z35:=Tryz.sizeOf253
 v35:=Tryz.zeroValue253
 t36:=Tryz.underlying254
 a36:=Tryz.isAgg254
 z36:=Tryz.sizeOf254
 v36:=Tryz.zeroValue254
 t41:=Tryz.underlying215
 a41:=Tryz.isAgg215
 z41:=Tryz.sizeOf215
 v41:=Tryz.zeroValue215
 t44:=Tryz.underlying260
 a44:=Tryz.isAgg260
 z44:=Tryz.sizeOf260
 v44:=Tryz.zeroValue260
 t46:=Tryz.underlying262
 a46:=Tryz.isAgg262
 z46:=Tryz.sizeOf262
 v46:=Tryz.zeroValue262
 t53:=Tryz.underlying304
 a53:=Tryz.isAgg304
 z53:=Tryz.sizeOf304
 v53:=Tryz.zeroValue304
 t57:=Tryz.underlying308
 a57:=Tryz.isAgg308
 z57:=Tryz.sizeOf308
 v57:=Tryz.zeroValue308
 t63:=Tryz.underlying324
 a63:=Tryz.isAgg324
 z63:=Tryz.sizeOf324
 v63:=Tryz.zeroValue324
 t64:=Tryz.underlying84
 a64:=Tryz.isAgg84
 z64:=Tryz.sizeOf84
 v64:=Tryz.zeroValue84 }
end Go.Proofs
namespace Go.Proofs.YtgplhpgkompkmaaGreat
noncomputable section
open Go.RowKit Go.Maps Go.Sort Go.Shelf
def XF {α:Type}(F:Fence)(n:Nat)(P:Program)(g:Nat)(lb:Array Value)(enc:α->Value)(S:List α->Prop)(N:Nat)(w:World):Prop:=
 ∀(l:Nat) (J:List α->World->Prop) (W:World),Below w.heap.size w W->AbidesFrom W.heap.size J->(∀b d,J b d->Below w.heap.size w d)->
  (∀b x h,J b h->b.length<N->YieldAt F (n-1) P l #[enc x] h λe d=>e=.returned (.bool true)/\J (b++[x]) d/\KeepsWalks h d)->
  J [] W->CallsIn F n P g (#[.func (.yield l) #[] #[]]++lb) W λe d=>(∃v,e=.returned v)/\∃xs,S xs/\J xs d
section
variable {P:Program}{ρ:Go.Shelf.Ren}
set_option maxRecDepth 100000 in
set_option maxHeartbeats 2000000 in
theorem YV(L:SlLaysZI.n11 P ρ)(F:Fence)(n:Nat)(h11:F.fn (ρ.f 11))(hro:F.round=none)(hn:2<=n)(g:Nat)(lb:Array Value)(hFg:F.fn g)(eg:∀args w,(callFunc g args).run P w=.ok (.enter g args) w)
  (S:List Int->Prop) (N:Nat) (hN:N<=maxLen) (hNb:N*8<=140737488355328) (w:World) (hseq:XF F (n-1) P g lb encZ S N w):
  CallsIn F n P (ρ.f 11) #[.slice none 0 0,.func (.func g) #[] lb] w λe w'=>∃(v:Value) (ss:List Int),e=.returned v/\S ss/\w'.ownsRow w.heap.size (ρ.t 26) 1 v ss.length (ss.map encZ)/\(v=.slice none 0 0↔ss=[])/\Below w.heap.size w w':=by
 have h1:1<=n:=V
 have mixed:=L.mixed;have t0:=L.t0;have a0:=L.a0;have z0:=L.z0;have v0:=L.v0;have t24:=L.t24;have a24:=L.a24;have z24:=L.z24;have v24:=L.v24;have t26:=L.t26;have a26:=L.a26;have z26:=L.z26;have v26:=L.v26;have t28:=L.t28;have a28:=L.a28;have z28:=L.z28;have v28:=L.v28;have u0:=run_underlying L.t0;have u24:=run_underlying L.t24;have u26:=run_underlying L.t26;have u28:=run_underlying L.t28;have hne:ρ.t 24≠ρ.t 26:=λe=>by have h:=L.t24;rw[e,L.t26]at h;cases h
 obtain⟨_,_,FG⟩:=L.f11;refine callsIn_of_wp_marks FG rfl h11 ?_ hro;simp only[SlBodyZ.n11_ntmps ρ,zci,zak,zan,Nat.reduceAdd,Nat.reduceSub,zcf,zcg,zcC,zco,zaN,za3]
 gi_wp2
 refine wpIn_rangeFunc ?_;intro fn hfn;rw[hro];obtain⟨W0,hW0⟩:∃W0,w.alloc (.cells #[.slice none 0 0] (ρ.t 24))=W0:=⟨_,rfl⟩
 have hs0:W0.heap.size=w.heap.size+1:=by rw[<-hW0];simp
 have hv0:W0.heap[w.heap.size]?=some (.cells #[.slice none 0 0] (ρ.t 24) (0,0)):=by rw[<-hW0];exact World.alloc_heap_new w _
 have hb0:Below w.heap.size w W0:=by rw[<-hW0];exact(Below.refl _ w).alloc (zac _) _
 rw[hW0];obtain⟨W1,hW1⟩:∃W1,(W0.alloc (.deferred (some []))).alloc (.loop (AnyZI.apRec ρ fn (.func (.func g) #[] lb) w.heap.size W0.heap.size .ready none))=W1:=⟨_,rfl⟩
 have hold:∀k,k<W0.heap.size->W1.heap[k]?=W0.heap[k]?:=λk hk=>by
  rw[<-hW1];exact(Below.heap_alloc _ _ k (by simp;omega)).trans (Below.heap_alloc _ _ k hk)
 have hb1:Below w.heap.size w W1:=by rw[<-hW1];exact(hb0.alloc hb0.size _).alloc (by have:=hb0.size;simp;omega) _
 have hs1:W1.heap.size=W0.heap.size+2:=by rw[<-hW1];simp
 have hM:AnyZI.ApAt ρ w fn (.func (.func g) #[] lb) w.heap.size (W0.heap.size+1) W0.heap.size [] W1:=
  ⟨⟨_,(hold w.heap.size V).trans hv0,⟨rfl,.inl ⟨rfl,rfl⟩⟩,O⟩,
   by rw[<-hW1];have:=World.alloc_heap_new (W0.alloc (.deferred (some []))) (.loop (AnyZI.apRec ρ fn (.func (.func g) #[] lb) w.heap.size W0.heap.size .ready none));rwa [World.size_alloc]at this,
   by rw[<-hW1];exact(Below.heap_alloc _ _ _ O).trans (World.alloc_heap_new W0 _),hb1⟩
 refine⟨W0.heap.size+1,[{ target:=.collected W0.heap.size,args:=#[] }],W1,{ target:=.fn (.func g) lb,args:=#[.func (.yield (W0.heap.size+1)) #[] #[]] },W1,g,
  #[.func (.yield (W0.heap.size+1)) #[] #[]]++lb,W1,?_,?_,?_,?_,λ_=>h1,?_⟩
 ·rw[<-hW1];exact run_enterLoop_outer _ _ _ _ _
 ·simp[resolve,go_sem]
 ·intro f' hf';simp[Target.leads]at hf';subst hf';exact hFg
 ·simp[invoke,go_sem,eg]
 ·refine(hseq (W0.heap.size+1) (AnyZI.ApAt ρ w fn (.func (.func g) #[] lb) w.heap.size (W0.heap.size+1) W0.heap.size) W1 hb1 (AnyZI.ap_abides ρ _ _ _ _ _ _ _ hb1.size) (λ_ _ h=>h.below)
   (λpre x W hJ hl=>AnyZI.apYield { L with } F (n-1-1) w fn hfn _ w.heap.size (W0.heap.size+1) W0.heap.size V V V (zac _) V N hN hNb pre x W hJ hl) hM).mono ?_
  rintro e W2 ⟨⟨v0,rfl⟩,ss,hS,h2⟩;obtain⟨v,hv,hrow,hnil⟩:=h2.box;have hend:=run_endLoop (P:=P) h2.L (by simp[AnyZI.apRec]);obtain⟨W3,hW3⟩:∃W3,W2.putObj (W0.heap.size+1) (.loop { AnyZI.apRec ρ fn (.func (.func g) #[] lb) w.heap.size W0.heap.size .ready none with state:=.exhausted })=W3:=⟨_,rfl⟩
  rw[hW3]at hend;have hg3:W2.grownBy W3 (some (W0.heap.size+1)):=by rw[<-hW3];exact grownBy_putObj_a _ _ _
  have hv3:W3.heap[w.heap.size]?=some (.cells #[v] (ρ.t 24) (0,0)):=by rw[<-hW3];exact(World.putObj_heap_other V).trans hv
  have hK3:W3.heap[W0.heap.size]?=some (.deferred (some [])):=by rw[<-hW3];exact(World.putObj_heap_other V).trans h2.K
  have hrow3:=hrow.kept hg3 (ownsRow_ne_a hrow h2.L (λcur e=>by first|cases e|exact hne (Obj.cells.inj e).2.1));have hb3:Below w.heap.size w W3:=h2.below.grown hg3 h2.below.size (λk e=>by cases e;omega);obtain⟨hc3,hf3⟩:=cell_of_box_a hv3
  clear hW3
  refine⟨none,W3,hend,?_⟩
  gi_wp2
  rw[<-hs0];refine⟨O,.inl ⟨_,_,rfl,run_takeDeferred hK3,?_⟩⟩;exact⟨_,results_tmp rfl _ _ _,v,ss,rfl,hS,hrow3.kept (grownBy_putObj_a _ _ _) (ownsRow_ne_a hrow3 hK3 (λcur e=>by first|cases e|exact hne (Obj.cells.inj e).2.1)),hnil,hb3.grown (grownBy_putObj_a _ _ _) hb3.size (λk e=>by cases e;omega)⟩
set_option maxRecDepth 100000 in
set_option maxHeartbeats 2000000 in
theorem afO(L:SlLaysZI.n8 P ρ)(F:Fence)(n:Nat)(q:F.fn (ρ.f 8))(k:F.fn (ρ.f 11))(d:F.round=none)(hn:3<=n)(g:Nat)(lb:Array Value)(m:F.fn g)(u:∀args w,(callFunc g args).run P w=.ok (.enter g args) w)
  (S:List Int->Prop) (N:Nat) (y:N<=maxLen) (o:N*8<=140737488355328) (w:World) (h:XF F (n-1-1) P g lb encZ S N w):
  CallsIn F n P (ρ.f 8) #[.func (.func g) #[] lb] w λe w'=>∃(v:Value) (b:List Int),e=.returned v/\S b/\w'.ownsRow w.heap.size (ρ.t 26) 1 v b.length (b.map encZ)/\(v=.slice none 0 0↔b=[])/\Below w.heap.size w w':=by
 have h1:1<=n:=V
 have p:=L.mixed;have t0:=L.t0;have a0:=L.a0;have z0:=L.z0;have v0:=L.v0;have z:=L.t24;have A:=L.a24;have C:=L.z24;have D:=L.v24;have E:=L.t26;have G:=L.a26;have H:=L.z26;have K:=L.v26;have M:=L.t28;have Q:=L.a28;have R:=L.z28;have T:=L.v28;have u0:=run_underlying L.t0;have W:=run_underlying L.t24;have X:=run_underlying L.t26;have aa:=run_underlying L.t28;have ab:∀args w,(callFunc (ρ.f 11) args).run P w=.ok (.enter (ρ.f 11) args) w:=L.f11.enters rfl;obtain⟨_,_,FG⟩:=L.f8;refine callsIn_of_wp FG rfl q ?_ d;simp only[SlBodyZ.n8_ntmps ρ,zci,zak,zan,Nat.reduceAdd,Nat.reduceSub,zcf,zcg,zcC,zco,zaN,za3]
 gi_wp2_with (gi_at_fn (ρ.f 11);refine(YV { L with } F (n-1) k d V g lb m u S N y o _ h).mono ?_;rintro e w' ⟨v,b,rfl,hS,i,j,hb⟩)
 go_ret
 exact⟨v,b,rfl,hS,i,j,hb⟩
set_option maxRecDepth 100000 in
set_option maxHeartbeats 2000000 in
theorem alm(L:SlLaysZI.n6 P ρ)(F:Fence)(n:Nat)(M:F.fn (ρ.f 6))(Q:F.fn (ρ.f 8))(h9:F.fn (ρ.f 9))(q:F.fn (ρ.f 11))(m:F.round=none)(hn:4<=n)(d:AnyZI.SortsIn P ρ F (n-1))(e9:∀args w,(callFunc (ρ.f 9) args).run P w=.ok (.enter (ρ.f 9) args) w)(g:Nat)(lb:Array Value)(u:F.fn g)(R:∀args w,(callFunc g args).run P w=.ok (.enter g args) w)
  (S:List Int->Prop) (N:Nat) (T:N<=maxLen) (z:N*8<=140737488355328) (w:World) (A:∀b,S b->b.length<=N) (o:XF F (n-1-1-1) P g lb encZ S N w):
  CallsIn F n P (ρ.f 6) #[.func (.func g) #[] lb] w λe w'=>∃(v:Value) (b:List Int),e=.returned v/\S b/\
   w'.ownsRow w.heap.size (ρ.t 26) 1 v b.length ((b.mergeSort (λx y=>decide (x<=y))).map encZ)/\(v=.slice none 0 0↔b=[])/\Below w.heap.size w w':=by
 have h1:1<=n:=V
 have C:=L.mixed;have t0:=L.t0;have a0:=L.a0;have z0:=L.z0;have v0:=L.v0;have X:=L.t24;have aa:=L.a24;have ab:=L.z24;have ad:=L.v24;have ae:=L.t26;have af:=L.a26;have ag:=L.z26;have ai:=L.v26;have al:=L.t28;have am:=L.a28;have ao:=L.z28;have ap:=L.v28;have u0:=run_underlying L.t0;have aq:=run_underlying L.t24;have ar:=run_underlying L.t26;have aw:=run_underlying L.t28;have e8:∀args w,(callFunc (ρ.f 8) args).run P w=.ok (.enter (ρ.f 8) args) w:=L.f8.enters rfl;obtain⟨_,_,FG⟩:=L.f6;refine callsIn_of_wp FG rfl M ?_ m;simp only[SlBodyZ.n6_ntmps ρ,zci,zak,zan,Nat.reduceAdd,Nat.reduceSub,zcf,zcg,zcC,zco,zaN,za3]
 gi_wp2_with (gi_at_fn (ρ.f 8);refine(afO { L with } F (n-1) Q q m V g lb u R S N T z _ o).mono ?_;rintro e W ⟨v,b,rfl,D,i,p,hb⟩)
 rcases i.2 with⟨rfl,hz⟩|⟨E,G,cur,rfl,h,k,r1,r2,r3,r4⟩
 ·
  have H:b=[]:=zaq hz;subst H
  gi_wp2_with (gi_at_fn (ρ.f 9);refine(d.2 none 0 W).mono ?_;rintro e w' ⟨rfl,rfl⟩)
  go_ret
  exact⟨.slice none 0 0,[],rfl,D,by simpa using i,O,hb⟩
 ·have hH:Holds encZ W E 0 b.toArray:=holds_of_block_i k (by simpa using r4);have K:E<W.heap.size:=(zbg.1 k).1;have hsz:b.length<4611686018427387904:=by have:=A b D;omega
  have cS:=d.1 E 0 G b W hH K hsz
  gi_wp2_with (gi_at_fn (ρ.f 9);refine cS.mono ?_;rintro e w' ⟨rfl,nn,os,rfl⟩)
  go_ret
  exact⟨_,b,rfl,D,ownsRow_sorted_i O h k r1 r2 r3,p,hb.grown (grownBy_sorted_i _) hb.size (λj hj=>by cases hj;exact h)⟩
end
open Go.RowKit Go.Maps Go.Sort Go.Shelf
def Va(m:Nat):AnyZI.SortsIn Tryz.prog Tryz.sortedA_ren Fence.wide m:=
 ⟨λblk off b e W g d hsz=>callsIn_wide.2 (AnyM.slices_Sort_int Tryz.sortA blk off b e W g d hsz),
  λp b W=>callsIn_wide.2 (AnyM.slices_Sort_int_none Tryz.sortA p b W)⟩
abbrev aln:Value->Option (DataW Unit × List MemPlace):=λ_=>some (.lit (.bool true),[])
def aju {ρ:Ren}{H:ah}{w w':World}(R:Rel ρ H w)(hb:Below w.heap.size w w'){v:Value}{zs:List Int}{e:TypeId}(h0:zs≠[])(h:w'.ownsRow w.heap.size e 1 v zs.length (zs.map encZ)):
  RV ρ H.gen w' (.vs zs.length 1 (zs.map λn=>.s (.int .i64 n))) v:=by
 obtain⟨_,⟨rfl,d⟩|⟨g,i,cur,rfl,d,k,p,y,z,q⟩⟩:=h
 ·exact absurd (zaq d) h0
 ·simp only[RV];refine⟨g,0,i,rfl,p,O,(zbg.1 k).1,QD R d,?_⟩;have key:∀(l:List Int) (o:Nat),(∀j,j<l.length->w'.cell? ⟨g,o+j,none⟩=(l[j]?).map encZ)->RVc ρ H.gen w' (l.map λn=>.s (.int .i64 n)) g o:=by
   intro l
   induction l with
   |nil=>intro o _;simp only[zbT,RVc]
   |cons a l u=>
    intro o hc;simp only[zaD,RVc];refine⟨⟨encZ a,by have:=hc 0 O;simpa using this,by simp only[RV]⟩,u (o+1) λj m=>?_⟩;have:=hc (j+1) (by simp only[zak];omega);rw[show o+(j+1)=o+1+j by omega]at this
    simpa using this
  refine key zs 0 λj m=>?_;rw[za7,zby]at*;have b:cur.toList[j]?=(zs.map encZ)[j]?:=by rw[<-q,zaC,if_pos m]
  rw[zaw]at b;unfold World.cell?;simp only[k,<-b,zcX,zaK,zal,if_false]
set_option maxRecDepth 100000 in
theorem Vb(F:Fence)(n:Nat)(h:F.fn 87)(b:F.round=none)(l g:Nat)(J:List Int->World->Prop)(W:World)(j:W.cell? ⟨g,0,none⟩=some (.slice none 0 0))(h0:J [] W):CallsIn F n Tryz.prog 87 #[.func (.yield l) #[] #[],.pointer (some ⟨g,0,none⟩)] W λe k=>(∃v,e=.returned v)/\J [] k:=by
 refine callsIn_of_wp Tryz.func87 rfl h ?_ b;simp only[Tryz.ntmps87,zci,zak,zan,Nat.reduceAdd,Nat.reduceSub,zcf,zcg,zcC,zco,zaN,za3]
 gi_wp2
 gi_loopw [7] (λi m=>i=.int .i64 0/\J [] m) (λ_ _=>0)
 case atStart=>exact⟨rfl,h0⟩
 case round=>obtain⟨rfl,d⟩:=hrel;gi_wp2;go_end0;exact⟨⟨_,rfl⟩,d⟩
set_option maxRecDepth 100000 in
set_option maxHeartbeats 1000000 in
theorem Vd(F:Fence)(n:Nat)(h7:F.fn 87)(hro:F.round=none)(hn:1<=n)(l Bs b off cap:Nat)(zs:List Int)(hreach:zs.length*8<=140737488351232)(J:List Int->World->Prop)(W:World)(hJ:∀pre W',J pre W'->∀j,j<zs.length->W'.cell? ⟨b,off+j,none⟩=some (.int .i64 (zs[j]?.getD 0)))
  (hY:∀pre x W,J pre W->pre.length<zs.length->YieldAt F (n-1) Tryz.prog l #[encZ x] W λe W'=>e=.returned (.bool true)/\J (pre++[x]) W'/\KeepsWalks W W') (hBs:W.cell? ⟨Bs,0,none⟩=some (.slice (some ⟨b,off,none⟩) zs.length cap)) (h0:J [] W):
  CallsIn F n Tryz.prog 87 #[.func (.yield l) #[] #[],.pointer (some ⟨Bs,0,none⟩)] W λe W'=>(∃v,e=.returned v)/\J zs W':=by
 refine callsIn_of_wp Tryz.func87 rfl h7 ?_ hro;simp only[Tryz.ntmps87,zci,zak,zan,Nat.reduceAdd,Nat.reduceSub,zcf,zcg,zcC,zco,zaN,za3]
 gi_wp2
 gi_loopw [7] (λi wr=>∃k:Nat,k<=zs.length/\i=.int .i64 k/\J (zs.take k) wr) (λi _=>zs.length-(intOf i).toNat)
 case atStart=>exact⟨0,zaX _,rfl,h0⟩
 case round=>
  obtain⟨k,hk,rfl,hJs⟩:=hrel;have hcx:k<zs.length->wr.cell? ⟨b,off+k,none⟩=some (.int .i64 (zs[k]?.getD 0)):=hJ _ _ hJs k;by_cases hlt:k<zs.length
  ·obtain⟨x,hx⟩:∃x,x=zs[k]?.getD 0:=⟨_,rfl⟩
   have hcx':=hcx hlt;rw[<-hx]at hcx';obtain⟨fn,tmps,assign,body,hy,hR⟩:=hY _ x wr hJs (by rw[zau];omega);simp only[encZ]at hy;have ht:zs.take (k+1)=zs.take k++[x]:=by rw[zbP,hx,zab hlt];rfl
   have hkl:((k:Nat):Int)<(zs.length:Int):=V
   clear hcx hx
   gi_wp2
   refine hR.mono ?_;rintro e W3 ⟨rfl,hJ3,hk3⟩
   gi_wp2
   go_roundw
   case rel=>
    refine⟨k+1,V,O,?_⟩;rw[ht];exact hJ3
   case measure=>simp[intOf];omega
  ·obtain rfl:k=zs.length:=V
   gi_wp2
   go_end0
   rw[List.take_length]at hJs;exact⟨⟨_,rfl⟩,hJs⟩
def Ve:WC 45 (sQ yX rP):=by
 have key:∀u H v H',sQ yX rP u H=some (v,H')->H'=H/\∃f r g,u=[.fn (.func f) [] [.ref r g 0]]/\f≠0/\
   ((∃z m d,H.get r=.blk g z [.mp m]/\z<gV/\H.get m=.map .i64 d/\f∈yX/\(d.map (·.1)).Nodup/\(d.all λe=>(Lit.int .i64 e.1).wf)=true/\d.length<=1000000/\v=QE (d.map (·.1)))∨
    (∃z,H.get r=.blk g z [.s (.slice none 0 0)]/\z<gV/\f∈rP/\v=aeS)∨
    (∃z cells zs,H.get r=.blk g z [.vs zs.length 1 cells]/\z<gV/\f∈rP/\Ip cells=some zs/\zs.length<=1000/\v=QE zs)):=by
  intro u H v H' h;unfold sQ at h;split at h
  ·rename_i f r g;split at h
   ·rename_i g' z m E;split at h
    ·rename_i d hm;split at h
     ·rename_i hc;obtain⟨rfl,h1,Q,h3,h4,h5,h6⟩:=hc;cases h;exact⟨rfl,f,r,_,rfl,Q,.inl ⟨z,m,d,E,h1,hm,h3,h4,h5,h6,rfl⟩⟩
     ·cases h
    ·cases h
   ·rename_i g' z n cells E;split at h
    ·rename_i zs K;split at h
     ·rename_i hc;obtain⟨rfl,h1,Q,h3,rfl,h5⟩:=hc;cases h;exact⟨rfl,f,r,_,rfl,Q,.inr (.inr ⟨z,cells,zs,E,h1,h3,K,h5,rfl⟩)⟩
     ·cases h
    ·cases h
   ·rename_i g' z E;split at h
    ·rename_i hc;obtain⟨rfl,h1,Q,h3⟩:=hc;cases h;exact⟨rfl,f,r,_,rfl,Q,.inr (.inl ⟨z,E,h1,h3,rfl⟩)⟩
    ·cases h
   ·cases h
  ·cases h
 refine⟨KT λu H v H' h ρ w lG R ha=>?_,λu H v H' h=>?_⟩;rotate_left
 ·rw[(key _ _ _ _ h).1];exact Keeps.refl H
 ·obtain⟨rfl,f,r,g,rfl,ad,hh⟩:=key _ _ _ _ h;obtain⟨cf,rfl,h1⟩:=Um ha;simp only[RV]at h1;obtain⟨fa,fc,rfl,Q,h3⟩:=h1;have ao:fa=#[]:=by simp only[RVs]at Q;exact Array.ext' (by simpa using Q)
  subst ao;obtain⟨cp,rfl,h4⟩:=Um h3;simp only[RV]at h4;obtain⟨a,rfl,h5,h6⟩:=h4;rcases hh with⟨z,m,d,E,L,hm,hk,ap,aq,af,rfl⟩|⟨z,E,L,hv,rfl⟩|⟨z,cells,zs,E,L,hv,K,af,rfl⟩
  ·have hg:H'.gen r=g:=by simp[ah.gen,E,gB.gen]
   obtain⟨b,sh,h7,rfl⟩:=h6 hg;have tV:=R.obj r b sh h7;simp only[yR,E]at tV;obtain⟨cs,e,o1,o2,o3,o4⟩:=tV;obtain⟨o5,rfl,o7⟩:=o4.1 L;simp only[RVc]at o3;obtain⟨⟨mv,o8,o9⟩,_⟩:=o3;simp only[RV]at o9;obtain⟨bm,rfl,ar⟩:=o9;have aw:=ar (by simp[ah.gen,hm,gB.gen]);have ag:=R.obj m bm 0 aw;simp only[yR,hm]at ag;obtain⟨i,dM,m1,_,m3,m4⟩:=ag;have k:i.toList.map (λx=>x.key)=(d.map (·.1)).map encZ:=by
    have:∀(d:List (Int × AV)) (l:List MapEntry),RVm ρ H'.gen w .i64 d l->l.map (λx=>x.key)=(d.map (·.1)).map encZ:=by
     intro d
     induction d with
     |nil=>intro l hl;simp only[RVm]at hl;subst hl;rfl
     |cons x d ih=>
      intro l hl;obtain⟨n,y⟩:=x;simp only[RVm]at hl;obtain⟨e,ax,rfl,k1,_,k3⟩:=hl;simp only[zaD,k1,ih ax k3]
    exact this d _ m3
   have hsz:i.size=d.length:=by
    have:=congrArg List.length k
    simpa using this
   have T:∀x∈i.toList,∃n,n∈d.map (·.1)/\x.key=encZ n/\Go.WideElems.rd Tryz.prog 3 aln x=some (.int .i64 n,.lit (.bool true)):=by
    intro x hx;have az:x.key∈(d.map (·.1)).map encZ:=by rw[<-k];exact zaM.2 ⟨x,hx,rfl⟩
    obtain⟨n,hn,X⟩:=zaM.1 az;refine⟨n,hn,X.symm,?_⟩;have hw:(Lit.int .i64 n).wf=true:=by
     obtain⟨e,F,rfl⟩:=zaM.1 hn;exact za6.1 aq e F
    have aD:keyOf Tryz.prog 3 x.key=some (.int .i64 n):=by
     rw[<-X];simp[keyOf,mapKey,Tryz.underlying3,hw]
    exact Go.WideElems.rd_mk (R:=aln) (key:=x.key) (val:=x.val) (born:=x.born) (yv:=(.lit (.bool true),[])) aD rfl
   have aE:(i.toList.map (λx=>x.key)).Nodup:=by
    rw[k];exact zcj.2 (ap.imp λaL F=>aL (encZ_inj F))
   let D0:DataW Unit:=.map ((i.toList.map (Go.WideElems.rg Tryz.prog 3 aln)).foldr DataW.insert []);have ai:w.ownsMap Tryz.prog 3 aln bm i.size D0:=⟨i,dM,m1,⟨by rw[hsz];unfold maxLen;omega,⟨m4.1,m4.2,aE⟩,λx hx=>by
    obtain⟨n,_,_,h⟩:=T x hx;exact⟨_,h⟩⟩,zac _,rfl⟩
   have aM:(intKeys D0).Perm (d.map (·.1)):=by
    have p1:((i.toList.map (Go.WideElems.rg Tryz.prog 3 aln)).foldr DataW.insert []).Perm (i.toList.map (Go.WideElems.rg Tryz.prog 3 aln)):=Go.WideShapes.sorted_perm _;have p2:=p1.map λp=>Go.intOf p.1;refine p2.trans ?_;have:(i.toList.map (Go.WideElems.rg Tryz.prog 3 aln)).map (λp=>Go.intOf p.1)=d.map (·.1):=by
     rw[zcZ];have al:∀a b:List Int,a.map encZ=b.map encZ->a=b:=λa b h=>by
      have:=congrArg (List.map λv:Value=>match v with|.int _ n=>n|_=>0) h
      simpa [zcZ,Function.comp_def,encZ]using this
     refine al _ _ ?_;rw[<-k,zcZ];refine zbo λx hx=>?_;obtain⟨n,_,X,E⟩:=T x hx;simp only[Function.comp_apply,Go.WideElems.rg_of E,Go.intOf,X]
    rw[this]
   have am:Maps.size D0=d.length:=by
    show((i.toList.map _).foldr DataW.insert []).length=_;rw[(Go.WideShapes.sorted_perm _).length_eq,zaz,Array.length_toList,hsz]
   have M:b<w.heap.size:=(zbg.1 o1).1;obtain rfl:f=239:=by
    simp only[yX,zao,zaB,or_false]at hk;rcases hk with hk|hk
    ·exact hk
    ·exact absurd hk ad
   have A:SeqGives Fence.wide 2 Tryz.prog 239 #[.pointer (some ⟨b,0,none⟩)] encZ (λG=>G.Perm (intKeys D0)) (Maps.size D0) w:=
    AnyZI.keys_gives (ρ:=Tryz.keysA_ren) { Tryz.keysA with } Fence.wide _ trivial rfl V b bm _ D0 w M o8 ai
   have cS:=AnyZI.sorted_in Tryz.sortedA Fence.wide 5 trivial trivial trivial trivial rfl V (Va _) (enters_of Tryz.func73 Z rfl) 239 #[.pointer (some ⟨b,0,none⟩)] trivial (enters_of Tryz.func239 Z rfl) _ _ (by rw[am];unfold maxLen;omega) (by rw[am];omega) _ A;refine((callsIn_wide (n:=5)).1 cS).mono λe w' ⟨v,G,F,hp,C,D,hB⟩=>?_;obtain⟨r1,r2⟩:=wY R hB;have aa:=hp.trans aM;refine⟨v,ρ,F,r1,?_,r2⟩;unfold QE;split
   ·rename_i K;rw[K]at aa;have:=D.2 aa.eq_nil;subst this;simp only[aeS,RV]
   ·rename_i K;have ae:G.length=(d.map (·.1)).length:=aa.length_eq;rw[mergeSort_of_perm_i aa]at C;have q:((d.map (·.1)).mergeSort leI).length=(d.map (·.1)).length:=List.length_mergeSort _;have:=aju R hB (zs:=(d.map (·.1)).mergeSort leI) (λh=>K (by
     rw[h]at q;exact zaq q.symm)) (by rw[q,<-ae];exact C)
    rw[q]at this;exact this
  ·have hg:H'.gen r=g:=by simp[ah.gen,E,gB.gen]
   obtain⟨b,sh,h7,rfl⟩:=h6 hg;have tV:=R.obj r b sh h7;simp only[yR,E]at tV;obtain⟨cs,e,o1,o2,o3,o4⟩:=tV;obtain⟨o5,rfl,o7⟩:=o4.1 L;simp only[RVc]at o3;obtain⟨⟨mv,o8,o9⟩,_⟩:=o3;simp only[RV]at o9;subst o9;have M:b<w.heap.size:=(zbg.1 o1).1;obtain rfl:f=87:=by simp only[rP,zao,zaB,or_false]at hv;rcases hv with hv|hv;exact hv;exact absurd hv ad
   have A:SeqGives Fence.wide 2 Tryz.prog 87 #[.pointer (some ⟨b,0,none⟩)] encZ (λG:List Int=>G=[]) 0 w:=λl J W hW hJ _ h0=>(Vb Fence.wide 2 trivial rfl l b J W ((hW.cell (p:=⟨b,0,none⟩) M).trans o8) h0).mono λe W' ⟨F,hj⟩=>⟨F,[],rfl,hj⟩
   have cS:=AnyZI.sorted_in Tryz.sortedA Fence.wide 5 trivial trivial trivial trivial rfl V (Va _) (enters_of Tryz.func73 Z rfl) 87 #[.pointer (some ⟨b,0,none⟩)] trivial (enters_of Tryz.func87 Z rfl) _ 0 (zaX _) V _ A;refine((callsIn_wide (n:=5)).1 cS).mono λe w' ⟨v,G,F,hp,C,D,hB⟩=>?_;obtain⟨r1,r2⟩:=wY R hB;have:=D.2 hp;subst this;exact⟨_,ρ,F,r1,by simp only[aeS,RV],r2⟩
  ·have hg:H'.gen r=g:=by simp[ah.gen,E,gB.gen]
   obtain⟨b,sh,h7,rfl⟩:=h6 hg;have tV:=R.obj r b sh h7;simp only[yR,E]at tV;obtain⟨cs,e,o1,o2,o3,o4⟩:=tV;obtain⟨o5,rfl,o7⟩:=o4.1 L;simp only[RVc]at o3;obtain⟨⟨mv,o8,o9⟩,_⟩:=o3;simp only[RV]at o9;obtain⟨gb,off,aR,rfl,q1,q2,q3,q4,q5⟩:=o9;have M:b<w.heap.size:=(zbg.1 o1).1;obtain rfl:f=87:=by simp only[rP,zao,zaB,or_false]at hv;rcases hv with hv|hv;exact hv;exact absurd hv ad
   have ab:=QF K;have T:∀(l:List Int) (o:Nat),RVc ρ H'.gen w (l.map λn=>.s (.int .i64 n)) gb o->∀j,j<l.length->w.cell? ⟨gb,o+j,none⟩=some (.int .i64 (l[j]?.getD 0)):=by
    intro l
    induction l with
    |nil=>intro o _ j hj;cases hj
    |cons a l ih=>
     intro o h j hj;simp only[zaD,RVc]at h;obtain⟨⟨x,x1,x2⟩,Q⟩:=h;simp only[RV]at x2;subst x2;cases j with
     |zero=>exact x1
     |succ j=>
      have:=ih (o+1) Q j (by simpa using hj);rw[show o+1+j=o+(j+1) by omega]at this
      simpa using this
   have a0:=T zs off (ab ▸ q5);have A:XF Fence.wide 2 Tryz.prog 87 #[.pointer (some ⟨b,0,none⟩)] encZ (λG:List Int=>G=zs) zs.length w:=λl J W hW hA a1 hY h0=>(Vd Fence.wide 2 trivial rfl V l b gb off aR zs V J W (λa2 W' hp j hj=>((a1 a2 W' hp).cell (p:=⟨gb,off+j,none⟩) q3).trans (a0 j hj)) hY ((hW.cell (p:=⟨b,0,none⟩) M).trans o8) h0).mono λe W' ⟨F,hj⟩=>⟨F,zs,rfl,hj⟩
   have cS:=alm Tryz.sortedA Fence.wide 5 trivial trivial trivial trivial rfl V (Va _) (enters_of Tryz.func73 Z rfl) 87 #[.pointer (some ⟨b,0,none⟩)] trivial (enters_of Tryz.func87 Z rfl) _ zs.length (by unfold maxLen;omega) V _ (λG h=>by rw[h];exact zac _) A;refine((callsIn_wide (n:=5)).1 cS).mono λe w' ⟨v,G,F,hp,C,D,hB⟩=>?_;obtain⟨r1,r2⟩:=wY R hB;subst hp;refine⟨v,ρ,F,r1,?_,r2⟩;unfold QE;split
   ·rename_i K;have:=D.2 K;subst this;simp only[aeS,RV]
   ·rename_i K;have q:(G.mergeSort leI).length=G.length:=List.length_mergeSort _;have:=aju R hB (zs:=G.mergeSort leI) (λh=>K (by rw[h]at q;exact zaq q.symm)) (by rw[q];exact C);rw[q]at this;exact this
open Go.RowKit
def alo:∀x∈akm,WC x.1 x.2:=by
 unfold akm;refine zch.2 ⟨Ve,?_⟩;refine zch.2 ⟨akn _,?_⟩;refine zch.2 ⟨U9,?_⟩;refine zch.2 ⟨akn _,?_⟩;refine zch.2 ⟨akn _,?_⟩;refine zch.2 ⟨⟨λf b H v H' h=>?_,λb H v H' h=>(by cases h)⟩,λx d=>(by cases d)⟩;simp only at h;split at h <;> cases h
def LK {α:Type}{f:Nat}{p:α}:∀{l:List (Nat × α)},l.lookup f=some p->(f,p)∈l
 |[],h=>by cases h
 |(k,q)::l,h=>by
  rw[List.lookup_cons]at h;split at h
  ·rename_i e;cases h;rw[beq_iff_eq]at e;subst e;simp
  ·exact zbb _ (LK h)
def aq3:Yt Tryz.prog pol:=λf p h=>alo (f,p) (LK h)
def XG:kQ cl:=(callω_ok (P:=Tryz.prog) aq3 Z).2
open Go.ChangeShapes Go.WideShapes Go.ChangeAt Go.RowKit
def auv:Yt Tryz.prog pol:=
 aq3
def av3 {w:World}:ad3 ρ0 w:=⟨λb hb=>(by cases hb),trivial⟩
def auw:ownKnob Tryz.prog.godebug=none:=Z
def aq4:laidOutB Tryz.prog=true:=Z
def alp:Tryz.prog.follows .mixedOrders=true:=Z
def afP:Tryz.prog.cellTypes Tryz.prog.depth 24=some [3,3,3,3,3,3,3,22,22,22,22,22]:=Z
set_option maxRecDepth 100000 in
theorem aq5 {H:Type}{enc:TypeId × Value->H}{W:World}{r:Reach}{g base:Nat}{i:Nat->Bool}{b:Bool}{v:Value}{d:DataW H}{ps:List MemPlace}(e:Value.okWide Tryz.prog W r g 24 v)(h:DataW.Trod enc Tryz.prog W base i b 24 v d ps):
  ∃(s:kT) (zi zw zk za zv:List Int),RV ρ0 G0 W (.agg s.cells) v/\s.Ok zi zw zk za zv:=
 Yy Tryz.underlying24 afP Z Z  Tryz.underlying3 Z Tryz.underlying22 Z Tryz.underlying3 Z e h
set_option maxRecDepth 100000 in
theorem aq6:aaP Tryz.prog 47 anw:=by
 refine Uk Tryz.underlying47 Z rfl λi f k d b=>?_
 match i,d,b with
 |0,d,b=>simp at d b;subst d;subst b;exact⟨Tryz.underlying3,rfl,Z⟩
 |1,d,b=>simp at d b;subst d;subst b;exact⟨Tryz.underlying3,rfl,Z⟩
 |2,d,b=>simp at d b;subst d;subst b;exact⟨Tryz.underlying3,rfl,Z⟩
 |3,d,b=>simp at d b;subst d;subst b;exact⟨Tryz.underlying42,rfl,Z⟩
 |i+4,d,b=>simp at b
set_option maxRecDepth 100000 in
theorem acR {H:Type}{enc:TypeId × Value->H}{W:World}{r:Reach}{g base:Nat}{i:Nat->Bool}{b:Bool}{v:Value}{d:DataW H}{ps:List MemPlace}(e:Value.okWide Tryz.prog W r g 40 v)(h:DataW.Trod enc Tryz.prog W base i b 40 v d ps):
  ∃(x:AV) (cs:List Cho),RV ρ0 G0 W x v/\ahE x cs:=
 QS Tryz.underlying40 Z aq6 e h
def XH(p:Pkt){d:Nat}:∀x∈p.av,Frz (d+2) x:=λx b=>by
 simp only[Pkt.av,zao,zaB,or_false]at b;rcases b with rfl|rfl|rfl|rfl|rfl|rfl|rfl|rfl|rfl <;> first|exact fC|exact sK
section
variable {b:Nat}{H:ah}{g:bF}{q:Nat}
def ar2(a c:Bool):bi .neq 4 (B a) (B c)=some (B (a !=c)):=by
 rw[afC];cases a <;> cases c <;> rfl
def aq7(G:Good b H g)(hb:H.base<=b){c:Cfg}{dR:Rows}(h:g q=some (EF c dR))(ak state head:Int)(data:List Int)(T:data.length<1000000000):
  ∃H',cl 240 [.ref q 0 0,I ak,I state,I head,dat data] H=some (I (jy c dR ak state head data).2,H')/\Good b H' (upd g q (EF c (jy c dR ak state head data).1))/\Step b H H':=by
 obtain⟨r,k,W,_⟩:=G.map h (i:=8) rfl;have j:=W (.agg #[.int .i64 0,.int .i64 0,.slice none 0 0]) ak true;rw[vG]at j;have e:H.base<=H.next:=zav hb G.1
 refine kN rfl rfl (aqz _ _ _ _ _ _ _) ?_;cases y:jY dR ak with
 |none=>
  simp only[y,zdc,if_true]at j;have p:jy c dR ak state head data=(dR,3):=by simp only[jy,y]
  have X:AV.cells (.s (.agg #[.int .i64 0,.int .i64 0,.slice none 0 0]))=[zI,zI,zN]:=rfl;have zn:zN.aS=true:=rfl;rw[p];refine⟨H.new (.blk 0 95 [zI,zI,zN]),?_,by rw[fO h];exact G.new _,Step.new _ G.1⟩;simp only[Int.reduceNeg,Nat.reduceAdd,aN,xq_,hq_,yZ,k,j,X,zn,e,zai]
 |some w=>
  simp only[y,zaj,if_true]at j;let H1:=H.new (.blk 0 95 w.av);have E:Good b H1 g:=G.new _;have n:=E.load h (i:=0) (x:=I c.aG) rfl;have A:=E.load h (i:=2) (x:=I c.aV) rfl;have K:=λH=>(fH H data).lnS;have e5:=λH=>ku H data T;by_cases d:state<0∨2<state∨head < -1∨c.aG<=head
  ·have p:jy c dR ak state head data=(dR,1):=by simp only[jy,y];rw[if_pos d]
   rw[p];refine⟨H1,?_,by rw[fO h];exact E,Step.new _ G.1⟩;simp only[H1]at n A;by_cases m:state<0
   ·simp only[Int.reduceNeg,Nat.reduceAdd,aN,xq_,hq_,yZ,k,j,e,zae,m];rfl
   ·by_cases o:2<state
    ·simp only[Int.reduceNeg,Nat.reduceAdd,aN,xq_,hq_,yZ,k,j,e,zae,m,o];rfl
    ·by_cases u:head < -1
     ·simp only[Int.reduceNeg,Nat.reduceAdd,aN,xq_,hq_,yZ,k,j,e,zae,m,o,u];rfl
     ·have z:c.aG<=head:=V
      simp only[Int.reduceNeg,Nat.reduceAdd,aN,xq_,hq_,yZ,k,j,e,zae,m,o,u,n,z];rfl
  ·have m:¬state<0:=λh=>d (.inl h);have o:¬2<state:=λh=>d (.inr (.inl h));have u:¬head < -1:=λh=>d (.inr (.inr (.inl h)));have z:¬c.aG<=head:=λh=>d (.inr (.inr (.inr h)));have C:decide (data≠[])=decide ((data.length:Int)≠0):=by
    cases data with
    |nil=>rfl
    |cons a l=>
     have:((a::l).length:Int)≠0:=by simp only[zak];omega
     simp only[this,ne_eq,not_false_eq_true,decide_true];rfl
   by_cases hw:((decide (head=-1) !=decide (state=0)) || (decide (data≠[]) && decide ((data.length:Int)≠c.aV)))=true
   ·have p:jy c dR ak state head data=(dR,1):=by simp only[jy,y];rw[if_neg d,if_pos hw]
    rw[p];refine⟨H1,?_,by rw[fO h];exact E,Step.new _ G.1⟩;simp only[H1]at n A;rw[C]at hw;cases v:(decide (head=-1) !=decide (state=0))with
    |true=>
     simp only[Int.reduceNeg,Nat.reduceAdd,aN,xq_,hq_,yZ,k,j,e,zae,m,o,u,n,z,ar2,v];rfl
    |false=>
     rw[v,zbI,zah]at hw;have w1:¬(data.length:Int)=0:=of_decide_eq_true hw.1;have F:¬(data.length:Int)=c.aV:=of_decide_eq_true hw.2;simp only[Int.reduceNeg,Nat.reduceAdd,Nat.reduceLeDiff,aN,xq_,hq_,yZ,k,j,e,zae,zai,m,o,u,n,z,ar2,v,K,w1,A,F];rfl
   ·have p:jy c dR ak state head data=(mO dR ak ⟨state,head,if data=[]then w.data else data⟩,0):=by simp only[jy,y];rw[if_neg d,if_neg hw]
    rw[p];rw[C]at hw;have v:(decide (head=-1) !=decide (state=0))=false:=by cases h1:(decide (head=-1) !=decide (state=0)) <;> simp_all
    rw[v,zbI]at hw;let L:Row:=⟨state,head,if data=[]then w.data else data⟩
    let M:=H.new (.blk 0 95 L.av);have G2:Good b M g:=G.new _;obtain⟨r',k1,_,_,k2⟩:=G2.map h (i:=8) rfl;obtain⟨H',D,Q,m3,m4⟩:=(k2 hb).1 ak (.agg L.av);refine⟨H',?_,?_,(Step.new _ G.1).trans m3⟩
    ·simp only[H1,Row.av]at n A;simp only[M,L,Row.av]at k1 D;by_cases hd:data=[]
     ·subst hd;simp only[if_true]at k1 D;have z1:((([]:List Int).length:Nat):Int)=0:=rfl;have z2:(((0:Nat)):Int)=0:=rfl;simp only[Int.reduceLT,Int.reduceNeg,Nat.reduceAdd,aN,xq_,hq_,yZ,FX,k,j,e,zae,m,o,u,n,z,ar2,v,K,z2,Row.av,k1,D]
     ·have w1:¬(data.length:Int)=0:=λh=>hd (zaq V);have R:(0:Int)<data.length:=V
      have F:(data.length:Int)=c.aV:=by
       rw[decide_eq_true (show(data.length:Int)≠0 from w1),zaJ]at hw;exact Classical.byContradiction λh=>hw (decide_eq_true h)
      simp only[hd,if_false]at k1 D;rw[F]at w1 R;simp only[Int.reduceNeg,Nat.reduceAdd,aN,xq_,hq_,yZ,FX,k,j,e,zae,zai,m,o,u,n,z,ar2,v,K,F,A,w1,R,e5,Row.av,k1,D]
    ·rw[CQ (λr:Row=>AV.agg r.av)]at Q;exact Q
end
def YW {c:Cfg}{dR:Rows}{ak state head:Int}{data:List Int}(h:(jy c dR ak state head data).2≠0):(jy c dR ak state head data).1=dR:=by
 unfold jy at h ⊢;cases d:jY dR ak with
 |none=>rfl
 |some w=>
  rw[d]at h;simp only at h ⊢;split at h
  ·rename_i b;rw[if_pos b]
  ·rename_i b;rw[if_neg b];split at h
   ·rename_i e;rw[if_pos e]
   ·exact absurd rfl h
section
variable {b:Nat}{H:ah}{g:bF}{q d tt:Nat}{c:Cfg}{me:Int}{h:Home}
def nR.sub {g':bF}(N:nR g q d tt c me h)(b:uJ g g'):nR g' q d tt c me h:=⟨b _ _ N.1,b _ _ N.2.1,b _ _ N.2.2⟩
def LM(G:Good b H g)(N:nR g q d tt c me h)(hd:∀e∈h.dR,e.2.data.length<1000000000)(ak who id:Int):
  cl 196 [.ref q 0 0,I ak,I who,I id] H=some (.agg (granted h.dR me ak who id).av,H):=by
 refine bg rfl rfl (apW _ _ _ _ _ _) ?_ (mF (XH _));have j:=G.guard.new (.blk 0 81 [zI,zI,zI,zI,zI,zI,zI,zB,zN]);have o:=j.load N.1 (i:=0) (x:=.ref d 0 0) rfl;have p:=ajq j N.2.1 hd ak;have u:=j.new (.blk 0 95 (iK h.dR ak).av);have v:=u.load N.1 (i:=10) (x:=I me) rfl;have k:(iK h.dR ak).av[0]?=some (I (iK h.dR ak).state):=rfl;have m:(iK h.dR ak).av[1]?=some (I (iK h.dR ak).head):=rfl;have n:(iK h.dR ak).av[2]?=some (dat (iK h.dR ak).data):=rfl;simp only[Nat.reduceAdd,Nat.reduceLeDiff,aN,xq_,hq_,aiU,o,p,v,k,m,n,zC,jg,fK,Ue,granted,Pkt.av]
def lI(g:bF)(d tt:Nat)(c:Cfg)(h:Home):bF:=upd (upd g d (EF c h.dR)) tt (iT h.bf)
def nR.ne(N:nR g q d tt c me h):q≠d/\q≠tt/\d≠tt:=by
 refine⟨λe=>?_,λe=>?_,λe=>?_⟩
 ·have i:=N.1;have b:=N.2.1;subst e;rw[i]at b;have:=congrArg List.length (zaW b);simp[EG,EF,Cfg.av]at this
 ·have i:=N.1;have b:=N.2.2;subst e;rw[i]at b;have:=congrArg List.length (zaW b);simp[EG,iT,Cfg.av]at this
 ·have i:=N.2.1;have b:=N.2.2;subst e;rw[i]at b;have:=congrArg List.length (zaW b);simp[EF,iT,Cfg.av]at this
def nR.alq(N:nR g q d tt c me h)(b:Home):nR (lI g d tt c b) q d tt c me b:=by
 obtain⟨n1,e,i⟩:=N.ne;exact⟨by unfold lI;rw[bD e,bD n1];exact N.1,by unfold lI;rw[bD i,aT],by unfold lI;rw[aT]⟩
def F9(N:nR g q d tt c me h):lI g d tt c h=g:=by
 obtain⟨n1,b,e⟩:=N.ne;unfold lI;rw[fO N.2.1,fO N.2.2]
def RH {g':bF}(h:uJ g g')(b:Home):uJ (lI g d tt c b) (lI g' d tt c b):=(h.both d _).both tt _
def zO(N:nR g q d tt c me h)(t:Turns):lI g d tt c { h with bf:=t }=upd g tt (iT t):=by
 unfold lI;rw[fO N.2.1]
def acS(G:Good b H g)(hb:H.base<=b)(N:nR g q d tt c me h)(p:Pkt)(hl:p.data.length<1000000000):
  ∃H',cl 228 [.ref q 0 0,.agg p.av] H=some (I (h.unlock c p).2,H')/\Good b H' (lI g d tt c (h.unlock c p).1)/\Step b H H':=by
 have hb0:H.base<=H.next:=zav hb G.1
 obtain⟨n1,n2,n3⟩:=N.ne;refine kN rfl rfl (aqp _ _ _ _) ?_;let H1:=H.new (.blk 0 81 p.av);have G1:=G.newObj (ty:=81) (xs:=p.av) (aW p);have S1:uJ g (upd g H.next (p.av.map Cell.av)):=(uJ.refl g).more (G.isNone (zac _)) _;have N1:=N.sub S1;have l1:=G1.load N1.1 (i:=1) (x:=.ref tt 0 0) rfl;have o1:=LC G1.guard N1.2.2 p.ak;have p1:=G1.load aT (i:=1) (x:=I p.src) rfl;have p4:=G1.load aT (i:=4) (x:=I p.ak) rfl;have p5:=G1.load aT (i:=5) (x:=I p.ptr) rfl;have p6:=G1.load aT (i:=6) (x:=I p.state) rfl;have p7:=G1.load aT (i:=7) (x:=B p.flag) rfl;have p8:=G1.load aT (i:=8) (x:=dat p.data) rfl;by_cases ho:h.bf.owner p.ak=p.src;rotate_left
 ·have hp:h.unlock c p=(h,6):=by simp only[Home.unlock];rw[if_pos ho]
  rw[hp,F9 N];refine⟨H1,?_,G1.sub S1,Step.new _ G.1⟩;simp only[Nat.reduceLT,xq_,Lh,aC (aW p),l1,p4,o1,p1,ho,zai];rfl
 ·have l0:=G1.load N1.1 (i:=0) (x:=.ref d 0 0) rfl;let dd:=if p.flag then p.data else [];obtain⟨H2,s1,s2,s3⟩:=aq7 G1 (by rw[jh];exact hb) N1.2.1 p.ak p.state p.ptr dd (by simp only[dd];split <;> first|exact hl|exact(by simp));have hd0:dat ([]:List Int)=zN:=by simp[dat,gI]
  have fl:∀k:AV->Option (AV × ah),(if p.flag=true then k (dat p.data)else k zN)=k (dat dd):=λk=>by
   simp only[dd];cases p.flag with
   |true=>rfl
   |false=>simp only[zal,if_false,hd0]
  by_cases hz:(jy c h.dR p.ak p.state p.ptr dd).2=0;rotate_left
  ·have hp:h.unlock c p=(h,(jy c h.dR p.ak p.state p.ptr dd).2):=by
    simp only[Home.unlock];rw[if_neg (λhn=>hn ho),if_neg hz]
   rw[hp,F9 N];rw[YW hz,fO N1.2.1]at s2;refine⟨H2,?_,s2.sub S1,(Step.new _ G.1).trans s3⟩;have hz':¬(jy c h.dR p.ak p.state p.ptr dd).2=0:=hz;cases hf:p.flag with
   |true=>
    have:dd=p.data:=by simp only[dd,hf,if_true]
    rw[this]at s1 hz' ⊢;rw[hf]at p7;simp only[Nat.reduceLT,xq_,Lh,yj,aC (aW p),l1,p4,o1,p1,ho,zae,p7,p8,l0,p6,p5,s1,hz',zai]
   |false=>
    have:dd=[]:=by simp only[dd,hf,zal,if_false]
    rw[this,hd0]at s1;rw[this]at hz' ⊢;rw[hf]at p7;simp only[Nat.reduceLT,xq_,Lh,yj,aC (aW p),l1,p4,o1,p1,ho,zae,p7,p8,l0,p6,p5,s1,hz',zai]
  ·have hp:h.unlock c p=(⟨(jy c h.dR p.ak p.state p.ptr dd).1,(h.bf.release p.ak p.src).1⟩,(h.bf.release p.ak p.src).2):=by
    simp only[Home.unlock];rw[if_neg (λhn=>hn ho),if_pos hz]
   rw[hp];have hqn:=G.ne N.2.2;have hdn:=G.ne N.2.1;have hhn:=G.ne N.1;have k1:upd (upd g H.next (p.av.map Cell.av)) d (EF c (jy c h.dR p.ak p.state p.ptr dd).1) H.next=some (p.av.map Cell.av):=by rw[bD hdn.symm,aT]
   have k2:upd (upd g H.next (p.av.map Cell.av)) d (EF c (jy c h.dR p.ak p.state p.ptr dd).1) q=some (EG d tt c me):=by rw[bD n1];exact N1.1
   have k3:upd (upd g H.next (p.av.map Cell.av)) d (EF c (jy c h.dR p.ak p.state p.ptr dd).1) tt=some (iT h.bf):=by rw[bD n3.symm];exact N1.2.2
   have r1:=s2.load k1 (i:=1) (x:=I p.src) rfl;have r4:=s2.load k1 (i:=4) (x:=I p.ak) rfl;have rl:=s2.load k2 (i:=1) (x:=.ref tt 0 0) rfl;obtain⟨H3,t1,t2,t3⟩:=Ry s2 (by rw[s3.base,jh];exact hb) k3 p.ak p.src;refine⟨H3,?_,t2.sub (RH S1 _),((Step.new _ G.1).trans s3).trans t3⟩;rw[hz]at s1;cases hf:p.flag with
   |true=>
    have:dd=p.data:=by simp only[dd,hf,if_true]
    rw[this]at s1;rw[hf]at p7;simp only[Nat.reduceLT,xq_,Lh,yj,aC (aW p),l1,p4,o1,p1,ho,zae,p7,p8,l0,p6,p5,s1,rl,r1,r4,t1]
   |false=>
    have:dd=[]:=by simp only[dd,hf,zal,if_false]
    rw[this,hd0]at s1;rw[hf]at p7;simp only[Nat.reduceLT,xq_,Lh,yj,aC (aW p),l1,p4,o1,p1,ho,zae,p7,p8,l0,p6,p5,s1,rl,r1,r4,t1]
end
section
variable {b:Nat}{H:ah}{g:bF}{q d tt:Nat}{c:Cfg}{me:Int}{h:Home}
abbrev zP9:List AV:=[zI,zI,zI,zI,zI,zI,zI,zB,zN]
def XI(r:Home × Pkt × Bool × Int):AV:=.tup [.agg r.2.1.av,B r.2.2.1,I r.2.2.2]
def acT(G:Good b H g)(hb:H.base<=b)(N:nR g q d tt c me h)(hc:c.ok=true)(hw:(h.bf.wait.map (·.1)).Nodup)(hwl:∀ak,(h.bf.ws ak).length<1000000)(hr:∀e∈h.dR,e.2.data.length<1000000000)(p:Pkt)(hl:p.data.length<1000000000):
  ∃H',cl 198 [.ref q 0 0,.agg p.av] H=some (XI (h.handle c me p),H')/\Good b H' (lI g d tt c (h.handle c me p).1)/\Step b H H':=by
 have hb0:H.base<=H.next:=zav hb G.1
 obtain⟨n1,n2,n3⟩:=N.ne;refine kN rfl rfl (apZ _ _ _ _) ?_;let H1:=H.new (.blk 0 81 p.av);let H2:=H1.new (.blk 0 81 zP9);have Ga:=G.newObj (ty:=81) (xs:=p.av) (aW p);have G2:=Ga.newObj (ty:=81) (xs:=zP9) rfl;let g2:=upd (upd g H.next (p.av.map Cell.av)) (H.next+1) (zP9.map Cell.av);have e12:(H.new (.blk 0 81 p.av)).next=H.next+1:=eF
 have S2:uJ g g2:=((uJ.refl g).more (G.isNone (zac _)) _).more (G.isNone (za8 _)) _;have N2:=N.sub S2;have st2:Step b H H2:=(Step.new _ G.1).trans (Step.new _ (G.new _).1);have hp1:g2 H.next=some (p.av.map Cell.av):=by simp only[g2];rw[bD (by omega),aT]
 have hp2:g2 (H.next+1)=some (zP9.map Cell.av):=aT;have G2':Good b H2 g2:=G2;have p0:=G2'.load hp1 (i:=0) (x:=I p.aU) rfl;have p1:=G2'.load hp1 (i:=1) (x:=I p.src) rfl;have p2:=G2'.load hp1 (i:=2) (x:=I p.dst) rfl;have p3:=G2'.load hp1 (i:=3) (x:=I p.id) rfl;have p4:=G2'.load hp1 (i:=4) (x:=I p.ak) rfl;have pa:=G2'.loads hp1 (i:=0) (n:=9) (xs:=p.av) rfl rfl (by decide);have l10:=G2'.load N2.1 (i:=10) (x:=I me) rfl;have l2:=G2'.load N2.1 (i:=2) (x:=I c.aG) rfl;have l3:=G2'.load N2.1 (i:=3) (x:=I c.aO) rfl;have la:=G2'.loads N2.1 (i:=2) (n:=8) (xs:=c.av) rfl rfl (by decide);have lt:=G2'.load N2.1 (i:=1) (x:=.ref tt 0 0) rfl;have ck:=Bo H2 p;have ho:=xB H2.guard c hc p.ak;have ez:bd 81 []=some (.agg zP9):=by simp only[xq_,zC,jg,dY]
 -- the zero packet is laid anew
 have zst:∀{K:ah} {gk:bF},Good b K gk->K.base<=b->gk (H.next+1)=some (zP9.map Cell.av)->∀{y:List AV},y.length=9->y.all AV.aS=true->∃K',st 9 (.ref (H.next+1) 0 0) (.agg y) K=some (aY,K')/\lda 9 (.ref (H.next+1) 0 0) K'=some (.agg y,K')/\Good b K' (upd gk (H.next+1) (y.map Cell.av))/\Step b K K':=by
  intro K gk Gk hk hz y hy ha;obtain⟨K',t1,t2,t3,t4⟩:=Gk.stores hk hz (i:=0) (n:=9) (vs:=y) (by simp) hy ha;have e:rE (zP9.map Cell.av) 0 y=y.map Cell.av:=by
   unfold rE;rw[zaP (by simp[hy])];simp
  rw[e]at t2;exact⟨K',t1,t2.loads aT (i:=0) (n:=9) (xs:=y) (by rw[zaS,zay (by simp[hy])]) hy (by decide),t2,t3⟩
 obtain⟨Hz,z1,z2,z3,z4⟩:=zst G2' (by simp only[H2,H1,jh];exact hb) hp2 (y:=zP9) rfl rfl;have Sz:∀{gk:bF} {y:List Cell},uJ gk (upd gk (H.next+1) y)->True:=λ_=>trivial;have zg:Good b Hz g:=z3.sub λq' cs h=>by
  have hne:q'≠H.next+1:=λe=>by
   have:=G.lt h;omega
  rw[bD hne];exact S2 _ _ h
 simp only[H2,H1]at p0 p1 p2 p3 p4 pa l10 l2 l3 la lt ck ho z1 z2;have bad:∀e:Int,h.handle c me p=(h,.zero,false,e)->∀H',H'=Hz->Good b H' (lI g d tt c (h.handle c me p).1)/\Step b H H':=λe he H' hH=>by
  rw[he,F9 N,hH];exact⟨zg,st2.trans z4⟩
 by_cases h1:(!(p.ok && decide (p.dst=me) && decide (p.src<c.aG)) || (decide (p.aU≠1) && decide (p.aU≠2)))=true
 ·have hp:h.handle c me p=(h,.zero,false,1):=by simp only[Home.handle];rw[if_pos h1]
  refine⟨Hz,?_,bad 1 hp Hz rfl⟩;rw[hp];cases hok:p.ok with
  |false=>
   rw[hok]at ck;simp only[Nat.reduceLT,Int.reduceEq,xq_,uo,aC (aW p),pa,ck,zai,ez,z1,z2,XI,fJ]
  |true=>
   rw[hok]at ck h1;by_cases hds:p.dst=me
   ·by_cases hsr:p.src<c.aG
    ·simp only[hds,hsr,decide_true,zcz,zae,zbI,zah,decide_eq_true_eq]at h1;have k1:=h1.1;have k2:=h1.2;simp only[ne_eq]at k1 k2;simp only[Nat.reduceLT,xq_,uo,aC (aW p),pa,ck,p2,l10,hds,p1,l2,hsr,zae,zai,p0,k1,k2,ez,z1,z2,XI,fJ]
    ·simp only[Nat.reduceLT,xq_,uo,aC (aW p),pa,ck,p2,l10,hds,p1,l2,hsr,zai,ez,z1,z2,XI,fJ]
   ·simp only[Nat.reduceLT,xq_,uo,aC (aW p),pa,ck,p2,l10,hds,zai,ez,z1,z2,XI,fJ]
 ·have hcond:p.ok=true/\p.dst=me/\p.src<c.aG/\(p.aU=1∨p.aU=2):=by
   simp only[zbu,zbj,zc0,decide_eq_false_iff_not,zah,decide_eq_true_eq,not_or,not_and,Classical.not_not]at h1;obtain⟨⟨⟨a1,a2⟩,a3⟩,a4⟩:=h1;refine⟨by simpa using a1,a2,a3,?_⟩;by_cases hk:p.aU=1
   ·exact .inl hk
   ·exact .inr (a4 hk)
  obtain⟨hok,hds,hsr,hkind⟩:=hcond;rw[hok]at ck;have hk12:(p.aU=1/\True)∨(¬p.aU=1/\p.aU=2):=by
   rcases hkind with hk|hk
   ·exact .inl ⟨hk,trivial⟩
   ·exact .inr ⟨by omega,hk⟩
  by_cases h2:c.aZ p.ak≠me∨c.aO<=p.ak
  ·have hp:h.handle c me p=(h,.zero,false,3):=by simp only[Home.handle];rw[if_neg h1,if_pos h2]
   refine⟨Hz,?_,bad 3 hp Hz rfl⟩;rw[hp];rcases hk12 with⟨hk,_⟩|⟨hk0,hk⟩
   ·by_cases hh:c.aZ p.ak=me
    ·have hl2:c.aO<=p.ak:=h2.resolve_left (λh=>h hh);simp only[Nat.reduceLT,Nat.reduceAdd,xq_,uo,aC (aW p),pa,ck,p2,l10,hds,p1,l2,hsr,zae,p0,hk,la,p4,ho,hh,l3,hl2,ez,z1,z2,XI,fJ]
    ·simp only[Nat.reduceLT,xq_,uo,aC (aW p),pa,ck,p2,l10,hds,p1,l2,hsr,zae,zai,p0,hk,la,p4,ho,hh,ez,z1,z2,XI,fJ]
   ·by_cases hh:c.aZ p.ak=me
    ·have hl2:c.aO<=p.ak:=h2.resolve_left (λh=>h hh);simp only[Nat.reduceLT,Int.reduceEq,Nat.reduceAdd,xq_,uo,aC (aW p),pa,ck,p2,l10,hds,p1,l2,hsr,zae,zai,p0,hk,la,p4,ho,hh,l3,hl2,ez,z1,z2,XI,fJ]
    ·simp only[Nat.reduceLT,Int.reduceEq,xq_,uo,aC (aW p),pa,ck,p2,l10,hds,p1,l2,hsr,zae,zai,p0,hk,la,p4,ho,hh,ez,z1,z2,XI,fJ]
  ·have hh:c.aZ p.ak=me:=Classical.byContradiction λh=>h2 (.inl h);have hl2:¬c.aO<=p.ak:=λh=>h2 (.inr h);rcases hk12 with⟨hk,_⟩|⟨hk0,hk⟩
   ·obtain⟨K1,a1,a2,a3⟩:=afG G2' (by simp only[H2,H1,jh];exact hb) N2.2.2 hw p.ak p.src p.id (hwl p.ak);have NK:=N2.alq { h with bf:=(h.bf.ask p.ak p.src p.id).1 };rw[zO N2]at NK;have hqt:tt≠H.next:=G.ne N.2.2
    have aq8:tt≠H.next+1:=by have:=G.lt N.2.2;omega
    have k1:upd g2 tt (iT (h.bf.ask p.ak p.src p.id).1) H.next=some (p.av.map Cell.av):=by rw[bD hqt.symm];exact hp1
    have k2:upd g2 tt (iT (h.bf.ask p.ak p.src p.id).1) (H.next+1)=some (zP9.map Cell.av):=by rw[bD aq8.symm];exact hp2
    have hbK:K1.base<=b:=by rw[a3.base];simp only[H2,H1,jh];exact hb
    have fin:∀{K2:ah} {y:List Cell},Good b K2 (upd (upd g2 tt (iT (h.bf.ask p.ak p.src p.id).1)) (H.next+1) y)->Good b K2 (lI g d tt c { h with bf:=(h.bf.ask p.ak p.src p.id).1 }):=λGk=>Gk.sub (by
     rw[zO N];refine((S2.both tt _).more (Ah (G.isNone (za8 _)) aq8.symm) _))
    have kk:¬((1:Int)=2):=by decide
    simp only[H2,H1]at a1;cases ha:(h.bf.ask p.ak p.src p.id).2 with
    |false=>
     have hp:h.handle c me p=({ h with bf:=(h.bf.ask p.ak p.src p.id).1 },.zero,false,0):=by
      simp only[Home.handle];rw[if_neg h1,if_neg h2,if_pos hk];rw[if_neg (by rw[ha];decide)]
     rw[hp];rw[ha]at a1;obtain⟨K2,y1,y2,y3,y4⟩:=zst a2 hbK k2 (y:=zP9) rfl rfl;refine⟨K2,?_,fin y3,(st2.trans a3).trans y4⟩;simp only[Nat.reduceLT,Nat.reduceAdd,xq_,uo,aC (aW p),pa,ck,p2,l10,hds,p1,l2,hsr,zae,zai,p0,hk,la,p4,ho,hh,l3,hl2,lt,p3,a1,ez,y1,y2,XI,fJ]
    |true=>
     have hp:h.handle c me p=({ h with bf:=(h.bf.ask p.ak p.src p.id).1 },granted h.dR me p.ak p.src p.id,true,0):=by
      simp only[Home.handle];rw[if_neg h1,if_neg h2,if_pos hk];rw[if_pos ha]
     rw[hp];rw[ha]at a1;have q1:=a2.load k1 (i:=1) (x:=I p.src) rfl;have q3:=a2.load k1 (i:=3) (x:=I p.id) rfl;have q4:=a2.load k1 (i:=4) (x:=I p.ak) rfl;have gr:=LM a2 NK hr p.ak p.src p.id;obtain⟨K2,y1,y2,y3,y4⟩:=zst a2 hbK k2 (y:=(granted h.dR me p.ak p.src p.id).av) (bZ _) (aW _);refine⟨K2,?_,fin y3,(st2.trans a3).trans y4⟩;simp only[Nat.reduceLT,Nat.reduceAdd,xq_,uo,aC (aW p),pa,ck,p2,l10,hds,p1,l2,hsr,zae,p0,hk,la,p4,ho,hh,l3,hl2,lt,p3,a1,q1,q3,q4,gr,y1,y2,XI]
   ·obtain⟨K1,a1,a2,a3⟩:=acS G2' (by simp only[H2,H1,jh];exact hb) N2 p hl;have hqt:tt≠H.next:=G.ne N.2.2
    have aq8:tt≠H.next+1:=by have:=G.lt N.2.2;omega
    have hqd:d≠H.next:=G.ne N.2.1
    have ave:d≠H.next+1:=by have:=G.lt N.2.1;omega
    have k1:lI g2 d tt c (h.unlock c p).1 H.next=some (p.av.map Cell.av):=by unfold lI;rw[bD hqt.symm,bD hqd.symm];exact hp1
    have k2:lI g2 d tt c (h.unlock c p).1 (H.next+1)=some (zP9.map Cell.av):=by unfold lI;rw[bD aq8.symm,bD ave.symm];exact hp2
    have NK:=N2.alq (h.unlock c p).1;have hbK:K1.base<=b:=by rw[a3.base];simp only[H2,H1,jh];exact hb
    have fin:∀{K2:ah} {y:List Cell},Good b K2 (upd (lI g2 d tt c (h.unlock c p).1) (H.next+1) y)->Good b K2 (lI g d tt c (h.unlock c p).1):=λGk=>Gk.sub (by
     refine((RH S2 _).more ?_ _);unfold lI;rw[bD aq8.symm,bD ave.symm];exact G.isNone (za8 _))
    have kk:¬((2:Int)=1):=by decide
    simp only[H2,H1]at a1;by_cases hz:(h.unlock c p).2=0
    ·have hp:h.handle c me p=((h.unlock c p).1,⟨8,me,p.src,p.id,p.ak,0,0,false,[]⟩,true,0):=by
      simp only[Home.handle];rw[if_neg h1,if_neg h2,if_neg hk0,if_pos hz]
     rw[hp];rw[hz]at a1;have q1:=a2.load k1 (i:=1) (x:=I p.src) rfl;have q3:=a2.load k1 (i:=3) (x:=I p.id) rfl;have q4:=a2.load k1 (i:=4) (x:=I p.ak) rfl;have q10:=a2.load NK.1 (i:=10) (x:=I me) rfl;have hd0:dat ([]:List Int)=zN:=by simp[dat,gI]
     obtain⟨K2,y1,y2,y3,y4⟩:=zst a2 hbK k2 (y:=(Pkt.mk 8 me p.src p.id p.ak 0 0 false []).av) (bZ _) (aW _);refine⟨K2,?_,fin y3,(st2.trans a3).trans y4⟩;have eb:bd 81 [(0,I 8),(1,I me),(2,I p.src),(3,I p.id),(4,I p.ak)]=some (.agg (Pkt.mk 8 me p.src p.id p.ak 0 0 false []).av):=by
      simp only[xq_,zC,jg,fK,Ue,Pkt.av,hd0];rfl
     simp only[Nat.reduceLT,Nat.reduceAdd,xq_,uo,aC (aW p),pa,ck,p2,l10,hds,p1,l2,hsr,zae,zai,p0,hk,kk,la,p4,ho,hh,l3,hl2,a1,q10,q1,q3,q4,eb,y1,y2,XI]
    ·have hp:h.handle c me p=((h.unlock c p).1,.zero,false,(h.unlock c p).2):=by
      simp only[Home.handle];rw[if_neg h1,if_neg h2,if_neg hk0,if_neg hz]
     rw[hp];obtain⟨K2,y1,y2,y3,y4⟩:=zst a2 hbK k2 (y:=zP9) rfl rfl;refine⟨K2,?_,fin y3,(st2.trans a3).trans y4⟩;simp only[Nat.reduceLT,Nat.reduceAdd,xq_,uo,aC (aW p),pa,ck,p2,l10,hds,p1,l2,hsr,zae,zai,p0,hk,kk,la,p4,ho,hh,l3,hl2,a1,hz,ez,y1,y2,XI,fJ]
end
def acU(l:List Int):(l.mergeSort λx y=>decide (x<=y))=srt [] l:=by
 have tr:∀a b c:Int,decide (a<=b)=true->decide (b<=c)=true->decide (a<=c)=true:=λa b c d e=>by simp only[decide_eq_true_eq]at*;omega
 have to:∀a b:Int,(decide (a<=b) || decide (b<=a))=true:=λa b=>by simp only[zbu,decide_eq_true_eq];omega
 exact(ahz (List.mergeSort_perm l _).symm ((List.pairwise_mergeSort tr to l).imp λh=>of_decide_eq_true h)).symm
def XJ(l:List Int):QE l=dat (srt [] l):=by
 unfold QE;split
 ·rename_i h;subst h;simp[dat,gI,srt,aeS]
 ·rename_i h;have g:=(x8 l [] List.Pairwise.nil).1;have b:(srt [] l).length=l.length:=g.length_eq;have d:srt [] l≠[]:=λe=>h (by rw[e]at b;exact zaq b.symm);rw[qH d,acU,b]
section
variable {b:Nat}{H:ah}{g:bF}{q d tt:Nat}{c:Cfg}{me:Int}{h:Home}
structure TOk(t:Turns):Prop where
 nd:(t.wait.map (·.1)).Nodup
 key:∀e∈t.wait,0<=e.1/\e.1<1000
 len:t.wait.length<1000
 ws:∀ak,(t.ws ak).length<1000000
def LP(G:Good b H g){t:Turns}(h:g q=some (iT t))(T:TOk t):cl 193 [.ref q 0 0] H=some (dat (t.ready (srt [] (t.wait.map (·.1)))),H):=by
 obtain⟨r,aes,f1,f2,f3,f4⟩:=G.guard.alf h (i:=1) rfl;have f4:aes.map (·.1)=t.wait.map (·.1):=by rw[f4];simp
 let H1:=H.guard.new (.blk 0 216 [.mp r]);have k1:cl 224 [.mp r] H.guard=some (.fn (.func 239) [] [.ref H.next 0 0],H1):=by
  refine bn rfl rfl (aqj _ _ _ ?_);have eb:fM 216 (.mp r) H.guard=some (.ref H.next 0 0,H1):=rfl;simp only[xq_,ai9,eb]
 have k2:cl 45 [.fn (.func 239) [] [.ref H.next 0 0]] H1=some (dat (srt [] (t.wait.map (·.1))),H1):=by
  refine zq (p:=sQ yX rP) rfl ?_;have g1:H1.get H.next=.blk 0 216 [.mp r]:=aP rfl
  have g2:H1.get r=.map .i64 aes:=by rw[<-f3];exact bC f2
  have hc:(True/\216<gV/\239≠0/\239∈yX/\(aes.map (·.1)).Nodup/\(aes.all λe=>(Lit.int .i64 e.1).wf)=true/\aes.length<=1000000):=by
   refine⟨trivial,by unfold gV;decide,by decide,by simp[yX],by rw[f4];exact T.nd,?_,?_⟩
   ·rw[za6];intro e he;have:e.1∈t.wait.map (·.1):=by rw[<-f4];exact zaM.2 ⟨e,he,rfl⟩
    obtain⟨x,hx,hxe⟩:=zaM.1 this;have:=T.key x hx;have m1:IntKind.min .i64=-9223372036854775808:=rfl;have m2:IntKind.max .i64=9223372036854775807:=rfl;simp only[Lit.wf,m1,m2,zah,decide_eq_true_eq];rw[<-hxe];omega
   ·have:=congrArg List.length f4;simp only[zaz]at this;have:=T.len;omega
  simp only[sQ,g1,g2];rw[if_pos hc,f4,XJ]
 have hsp:=x8 (t.wait.map (·.1)) [] List.Pairwise.nil;obtain⟨K,hK0⟩:∃K,K=srt [] (t.wait.map (·.1)):=⟨_,rfl⟩
 rw[<-hK0]at k2 hsp ⊢;have hK:K.length<1000:=by have:=hsp.1.length_eq;simp only[zaN,zaz]at this;have:=T.len;omega
 have hs:∀H',aH H' (dat K) 1 K.length (K.map I):=λH'=>fH H' K;let p:Int->Bool:=λak=>!t.owned ak && !(t.ws ak).isEmpty
 let F:Nat->List Int:=λj=>(K.take j).filter p
 have key:∀k j,j+k=K.length->∀(Hi:ah) (o:AV),Own H.next Hi o 1 ((F j).map I)->(F j=[]->o=zN)->Step H.next H.guard Hi->
   ∃y Hz,FK cl [.ref q 0 0,o,dat K,I K.length,I j] Hi=some (y,Hz)/\Own H.next Hz y 1 ((t.ready K).map I)/\(t.ready K=[]->y=zN):=by
  intro k
  induction k with
  |zero=>
   intro j hj Hi o O z s;have h1:¬(j:Int)<K.length:=by omega
   have:F j=t.ready K:=by
    simp only[F,Turns.ready,p];rw[zay (by omega)]
   rw[this]at O z;refine⟨o,Hi,?_,O,z⟩;rw[Xd];simp only[xq_,h1]
  |succ k ih=>
   intro j hj Hi o O z s;have h1:(j:Int)<K.length:=by omega
   have h6:(j:Int)+1=((j+1:Nat):Int):=by omega
   have h7:=wrap_i64 (a:=((j+1:Nat):Int)) (by omega) (by omega);have sb:Hi.base=H.next:=s.base
   have sn:H.next<=Hi.next:=s.next
   obtain⟨e,he⟩:∃e,K[j]?=some e:=⟨_,zab (by omega)⟩
   have s1:=(hs Hi).ix (k:=.i64) (i:=(j:Int)) (by omega) h1;rw[zam]at s1;have s2:=(hs Hi).ld (i:=j) (by omega);rw[zaw,he]at s2;simp only[zaj]at s2;have Gi:Good b Hi g:=G.guard.ext s.next s.low
   have o1:=yw Gi h e;have w1:=xG Gi h e;have hFs:F (j+1)=F j++if p e=true then [e]else []:=by
    simp only[F,zbP,he,Option.toList_some,zcr]
    congr 1
    cases hp:p e <;> simp[hp]
   have hm:(F j).length<=j:=zav (zb9 _ _) (by rw[zau];omega);rw[Xd];cases hp:p e with
   |true=>
    rw[hp,if_pos rfl]at hFs;have ho:t.owned e=false:=by simp only[p,zah,zbj]at hp;exact hp.1
    have hw:(0:Int)<(t.ws e).length:=by
     simp only[p,zah,zbj]at hp;cases hz:t.ws e with
     |nil=>rw[hz]at hp;simp at hp
     |cons a l=>simp only[zak];omega
    obtain⟨o',H2,t1,t2,t3⟩:=(O.new (.blk 0 3 [I e])).step (n:=(F j).length) (k:=1) (e:=3) (by_:=8) (y:=.sl Hi.next 0 0 1 1 1 true) (new:=[I e]) (by simp only[eF];omega) (by simp only[jh];omega) (by decide) (by simp) (jX rfl) rfl (by unfold most;omega) (by unfold most;omega);obtain⟨y,Hz,r1,r2⟩:=ih (j+1) (by omega) H2 o' (by rw[hFs,zbn];exact t2) (λhz=>by rw[hFs]at hz;simp at hz) ((s.trans (Step.new _ sn)).trans t3);refine⟨y,Hz,?_,r2⟩;rw[ho]at o1;have eb:∀H,bs 22 1 [(0,I e)] H=some (.sl H.next 0 0 1 1 1 true,H.new (.blk 0 3 [I e])):=λH=>(Nz (by decide)).trans (jP rfl rfl rfl);simp only[xq_,h1,s1,s2,o1,w1,hw,zai,eb,t1,AZ,bI,h6,h7];exact r1
   |false=>
    rw[hp,if_neg (by simp),zbd]at hFs;obtain⟨y,Hz,r1,r2⟩:=ih (j+1) (by omega) Hi o (by rw[hFs];exact O) (by rw[hFs];exact z) s;refine⟨y,Hz,?_,r2⟩;cases ho:t.owned e with
    |true=>
     rw[ho]at o1;simp only[xq_,h1,s1,s2,o1,zae,AZ,bI,h6,h7];exact r1
    |false=>
     rw[ho]at o1;have hw:¬(0:Int)<(t.ws e).length:=by
      simp only[p,ho,zai,zaJ,Bool.not_eq_false']at hp;rw[List.isEmpty_iff]at hp;rw[hp];decide
     simp only[xq_,h1,s1,s2,o1,w1,hw,zai,AZ,bI,h6,h7];exact r1
 obtain⟨y,Hz,r1,r2,r3⟩:=key K.length 0 (by omega) H1 zN (.inl ⟨rfl,rfl⟩) (λ_=>rfl) (Step.new _ (zac _));refine iy rfl rfl (apQ _ _ _ (r:=(y,Hz)) ?_) ?_
 ·have e2:=(hs H1).lnS;simp only[H1]at k1 k2 e2 r1;simp only[xq_,aiS,f1,k1,k2,e2];exact r1
 ·by_cases hz:t.ready K=[]
  ·rw[r3 hz,hz];simp only[dat,gI];exact iY
  ·rw[qH hz];exact uq r2 (by decide) (by simp) (λy hy=>rU (d:=7) _ y hy _ _) (λe=>hz (zaq e))
end
def Off(S:Nat->Prop)(g g':bF):Prop:=∀q,¬S q->g' q=g q
def Off.refl(S:Nat->Prop)(g:bF):Off S g g:=λ_ _=>rfl
def Off.trans {S:Nat->Prop}{g g' b:bF}(h:Off S g g')(e:Off S g' b):Off S g b:=λq d=>(e q d).trans (h q d)
def Off.upd {S:Nat->Prop}{g:bF}{q:Nat}{cs:List Cell}(h:S q):Off S g (upd g q cs):=λx b=>by
 rw[bD];intro e;subst e;exact b h
def Off.mono {S T:Nat->Prop}{g g':bF}(h:Off S g g')(b:∀q,S q->T q):Off T g g':=λq d=>h q λe=>d (b q e)
def PE(P:Nat->Nat->Nat)(n:Nat)(q:Nat):Prop:=∃i s,i<n/\s<4/\q=P i s
def Tf(p:Port):Nat->List Pkt
 |0=>p.rq
 |1=>p.rin
 |2=>p.an
 |_=>p.ain
def PG(c:Cfg):Nat->Int
 |0=>c.out
 |1=>c.inn
 |2=>c.out
 |_=>1
def oIx(req:Bool):Nat:=if req then 0 else 2
def iIx(req:Bool):Nat:=if req then 1 else 3
def gY {g:bF}{a:Nat->Nat}{c:Cfg}{p:Port}(h:wB g a c p):∀{s:Nat},s<4->g (a s)=some (nO (Tf p s) (PG c s)):=λ{s} b=>by
 obtain⟨d,e,i,j⟩:=h
 match s,b with
 |0,_=>exact d
 |1,_=>exact e
 |2,_=>exact i
 |3,_=>exact j
def Bq {g:bF}{a:Nat->Nat}{c:Cfg}{p:Port}(h:∀s,s<4->g (a s)=some (nO (Tf p s) (PG c s))):wB g a c p:=
 ⟨h 0 J,h 1 J,h 2 J,h 3 J⟩
def Bv(p:Port)(req:Bool):Tf p (oIx req)=p.sort req:=by cases req <;> rfl
def Jk(p:Port)(req:Bool):Tf p (iIx req)=p.um req:=by cases req <;> rfl
def rY(c:Cfg)(req:Bool):PG c (oIx req)=c.out:=by cases req <;> rfl
def uF(req:Bool):oIx req<4:=by cases req <;> decide
def rZ(req:Bool):iIx req<4:=by cases req <;> decide
def zQ(p:Port)(req:Bool)(l:List Pkt)(s:Nat)(b:s<4):Tf (p.kM req l) s=if s=oIx req then l else Tf p s:=by
 match s,b with
 |0,_=>cases req <;> rfl
 |1,_=>cases req <;> rfl
 |2,_=>cases req <;> rfl
 |3,_=>cases req <;> rfl
def Dn(p:Port)(req:Bool)(l:List Pkt)(s:Nat)(b:s<4):Tf (p.lq req l) s=if s=iIx req then l else Tf p s:=by
 match s,b with
 |0,_=>cases req <;> rfl
 |1,_=>cases req <;> rfl
 |2,_=>cases req <;> rfl
 |3,_=>cases req <;> rfl
section
variable {b:Nat}{H:ah}{g:bF}{f:Nat}{P:Nat->Nat->Nat}{c:Cfg}{fab:Fab}
def iD.sub {g':bF}(F:iD g f P c fab)(e:uJ g g'):iD g' f P c fab:=
 ⟨e _ _ F.1,λi p h=>by obtain⟨a,b,c,d⟩:=F.2.1 i p h;exact⟨e _ _ a,e _ _ b,e _ _ c,e _ _ d⟩,F.2.2⟩
def iD.fne(F:iD g f P c fab){i s:Nat}(hi:i<fab.l.length)(d:s<4):f≠P i s:=λe=>by
 have h:=F.1;have b:=gY (F.port hi) d;rw[<-e,h]at b;have:=congrArg List.length (zaW b);simp[afu,nO]at this
def iD.fill(F:iD g f P c fab)(J:UW P fab.l.length){i s:Nat}(hi:i<fab.l.length)(n:s<4){p':Port}{l:List Pkt}(q:∀t,t<4->Tf p' t=if t=s then l else Tf (fab.port i) t):
  iD (upd g (P i s) (nO l (PG c s))) f P c (fab.put i p'):=by
 have m:(fab.put i p').l.length=fab.l.length:=by simp[Fab.put]
 refine⟨by rw[m,bD (F.fne hi n)];exact F.1,λj p h=>?_,F.2.2⟩;simp only[Fab.put,zam]at h;have o:j<fab.l.length:=by have:=(zaf.1 h).1;simpa using this
 by_cases b:i=j
 ·subst b;rw[zbl hi]at h;cases h;refine Bq λt k=>?_;rw[q t k];by_cases d:t=s
  ·subst d;rw[if_pos rfl,aT]
  ·rw[if_neg d,bD (λe=>d (J _ _ _ _ hi hi k n e).2)];exact gY (F.port hi) k
 ·rw[zbr b]at h;refine Bq λt k=>?_;rw[bD (λe=>b (J _ _ _ _ o hi k n e).1.symm)];have:=gY (F.2.1 j p h) k;exact this
def Bz {i:Int}(hi:fab.is i=true):∃n:Nat,i=n/\n<fab.l.length:=by
 simp only[Fab.is,zah,decide_eq_true_eq]at hi;exact⟨i.toNat,V,V⟩
def afQ(a:Nat->Nat)(req:Bool):List AV:=[.ref (a (oIx req)) 0 0,.ref (a (iIx req)) 0 0]
def Gf(H:ah)(hb:H.base<=H.next)(a:Nat->Nat)(req:Bool):∃H',cl 91 [.agg (oD a),B req] H=some (.agg (afQ a req),H')/\Made H H' nP:=by
 refine kN rfl rfl (at7 _ _ _ _) ?_;have b:(oD a).all AV.aS=true:=rfl;cases req with
 |true=>
  refine⟨(H.new (.blk 0 142 (oD a))).new (.blk 0 121 (afQ a true)),?_,((Made.refl hb).new _).new _⟩;simp only[Nat.reduceLT,Nat.reduceAdd,aN,xq_,hq_,akK,oD,afQ,oIx,iIx,aC,hb]
 |false=>
  refine⟨(H.new (.blk 0 142 (oD a))).new (.blk 0 121 (afQ a false)),?_,((Made.refl hb).new _).new _⟩;simp only[Nat.reduceLT,Nat.reduceAdd,aN,xq_,hq_,akK,oD,afQ,oIx,iIx,aC,hb]
def BA(G:Good b H g)(F:iD g f P c fab){i:Nat}(hi:i<fab.l.length):∃x r gg o,ld (.ref f 0 0) H=some (x,H)/\ix 4 x (I i) H=some (.ref r gg o,H)/\lda 4 (.ref r gg o) H=some (.agg (oD (P i)),H):=by
 obtain⟨x,e,h⟩:=G.seq F.1 (i:=0) rfl;obtain⟨r,gg,o,j,_,d⟩:=h.elemAt J (pW P _) hi;have k:(List.range fab.l.length)[i]?=some i:=zbi hi;have:=vF (enc:=λi=>oD (P i)) (m:=4) (λ_=>rfl) (List.range fab.l.length) i i k;rw[this]at d;exact⟨x,r,gg,o,e,j .i64,d⟩
structure FOk(c:Cfg)(fab:Fab):Prop where
 ok:c.ok=true
 len:fab.l.length<1000
 box:∀p∈fab.l,∀s,s<4->((Tf p s).length:Int)<=PG c s
 dat:∀p∈fab.l,∀s,s<4->∀q∈Tf p s,q.data.length<1000000000
def LQ {c:Cfg}(h:c.ok=true)(s:Nat):0<=PG c s/\PG c s<1000:=by
 have B:=qP h;have:=B.out;have:=B.inn;unfold PG;split <;> omega
def FOk.small {c:Cfg}{fab:Fab}(K:FOk c fab){p:Port}(b:p∈fab.l){s:Nat}(d:s<4):(Tf p s).length<1000:=by
 have:=K.box p b s d;have:=(LQ K.ok s).2;omega
def Fab.vN {fab:Fab}{i:Nat}(hi:i<fab.l.length):fab.port i∈fab.l:=by
 unfold Fab.port;rw[zam,zaA,zab hi];exact zc3 hi
def alr(G:Good b H g)(hb:H.base<=b)(F:iD g f P c fab)(K:FOk c fab)(i:Int)(req:Bool):∃H',cl 141 [.ref f 0 0,I i,B req] H=some (I (fab.roomOf i req),H')/\Good b H' g/\Step b H H':=by
 refine kN rfl rfl (ao8 _ _ _ _ _) ?_;have e:=FY G F K.len i;cases hi:fab.is i with
 |false=>
  rw[hi]at e;refine⟨H,?_,G,Step.refl _ _⟩;have:fab.roomOf i req=0:=by simp[Fab.roomOf,hi]
  simp only[xq_,aby,e,zai,this]
 |true=>
  rw[hi]at e;obtain⟨n,rfl,h⟩:=Bz hi;obtain⟨x,r,gg,o,q,u,v⟩:=BA G F h;obtain⟨H1,w,d⟩:=Gf H (zav hb G.1) (P n) req;have m:Good b H1 g:=G.ext d.next d.same
  have j:=gY (F.port h) (uF req);have p:=Xl m j (LQ K.ok _).1 (LQ K.ok _).2 (K.small (Fab.vN h) (uF req));rw[Bv,rY,<-F.2.2.1]at p;refine⟨H1,?_,m,⟨d.base,d.next,λr y=>d.same r (zax y G.1)⟩⟩;have k:fab.roomOf n req=fab.out-((fab.port n).sort req).length:=by unfold Fab.roomOf;rw[if_pos hi]
  have z:(afQ (P n) req)[0]?=some (.ref (P n (oIx req)) 0 0):=rfl;simp only[xq_,aby,e,zae,q,u,v,w,z,p,k]
def als(G:Good b H g)(hb:H.base<=b)(F:iD g f P c fab)(J:UW P fab.l.length)(K:FOk c fab)(p:Pkt)(hl:p.data.length<1000000000):
  ∃H' g',cl 143 [.ref f 0 0,.agg p.av] H=some (I (fab.send p).2,H')/\Good b H' g'/\iD g' f P c (fab.send p).1/\Off (PE P fab.l.length) g g'/\Step b H H':=by
 have hb0:H.base<=H.next:=zav hb G.1
 let H1:=H.new (.blk 0 81 p.av);have G1:Good b H1 g:=G.new _;have ck:=Bo H1 p;have e1:=FY G1 F K.len p.src;have e2:=FY G1 F K.len p.dst;by_cases hbad:(!p.ok || !fab.is p.src || !fab.is p.dst)=true
 ·have hp:fab.send p=(fab,1):=by simp only[Fab.send];rw[if_pos hbad]
  rw[hp];refine⟨H1,g,bn rfl rfl (aii _ _ _ _ ?_),G1,F,Off.refl _ _,Step.new _ G.1⟩;simp only[H1]at ck e1 e2 ⊢;have f1:p.av[1]?=some (I p.src):=rfl;have f2:p.av[2]?=some (I p.dst):=rfl;cases hok:p.ok with
  |false=>
   rw[hok]at ck;simp only[Nat.reduceLT,Int.reduceEq,xq_,hq_,QU,aC (aW p),ck,zai]
  |true=>
   rw[hok]at ck hbad;cases hs:fab.is p.src with
   |false=>
    rw[hs]at e1;simp only[Nat.reduceLT,xq_,hq_,QU,aC (aW p),ck,zae,f1,e1,zai]
   |true=>
    rw[hs]at e1 hbad;have hd:fab.is p.dst=false:=by simpa using hbad
    rw[hd]at e2;simp only[Nat.reduceLT,xq_,hq_,QU,aC (aW p),ck,zae,f1,f2,e1,e2,zai]
 ·have hcond:p.ok=true/\fab.is p.src=true/\fab.is p.dst=true:=by
   cases h1:p.ok <;> cases h2:fab.is p.src <;> cases h3:fab.is p.dst <;> simp_all
  obtain⟨hok,hs,hd⟩:=hcond;rw[hok]at ck;rw[hs]at e1;rw[hd]at e2;obtain⟨n,hsn,hn⟩:=Bz hs;obtain⟨x,r,gg,o,h1,h2,h3⟩:=BA G1 F hn;let req:=rG p.aU;have rq:=LH H1.guard p.aU;obtain⟨K1',s1,s2⟩:=Gf H1.guard (zac _) (P n) req;obtain⟨K1,s1,s2⟩:=drawn s1 s2;have G2:Good b K1 g:=G1.ext s2.next s2.same
  have hbx:=gY (F.port hn) (uF req);have hbK:K1.base<=b:=by rw[s2.base];exact hb
  obtain⟨H',q1,q2,q3⟩:=akP G2 hbK hbx (LQ K.ok _).1 (LQ K.ok _).2 (K.small (Fab.vN hn) (uF req)) p hl;have g1:K1.get H.next=.blk 0 81 p.av:=by rw[s2.same _ (by simp only[H1,eF];omega)];exact aP rfl
  have l9:lda 9 (.ref H.next 0 0) K1=some (.agg p.av,K1):=by
   rw[iP (off:=0) (n:=9) g1 (by rw[bZ];exact zac _),zaS,Qz]
  rw[Bv,rY]at q1;have hout:fab.out=c.out:=F.2.2.1;have hle:=K.box _ (Fab.vN hn) _ (uF req);rw[Bv,rY]at hle;have f0:p.av[0]?=some (I p.aU):=rfl;have f1:p.av[1]?=some (I p.src):=rfl;have f2:p.av[2]?=some (I p.dst):=rfl;have l0:(afQ (P n) req)[0]?=some (.ref (P n (oIx req)) 0 0):=rfl;have run:∀v,cl 197 [.ref (P n (oIx req)) 0 0,.agg p.av] K1=some (v,H')->cl 143 [.ref f 0 0,.agg p.av] H=some (v,H'):=λv q1=>by
   refine bn rfl rfl (aii _ _ _ _ ?_);rw[hsn]at f1 e1;simp only[H1,req]at ck e1 e2 rq h1 h2 h3 s1 l0 q1;simp only[Nat.reduceLT,xq_,hq_,QU,aC (aW p),ck,zae,f0,f1,f2,e1,e2,h1,h2,h3,rq,s1,l0,l9,q1]
  have st0:Step b H K1:=(Step.new _ G.1).trans ⟨s2.base,s2.next,λr hr=>s2.same r (zax hr G1.1)⟩;have hset:Off (PE P fab.l.length) g (upd g (P n (oIx req)) (nO (if PG c (oIx req)=((Tf (fab.port n) (oIx req)).length:Int)then Tf (fab.port n) (oIx req)else Tf (fab.port n) (oIx req)++[p]) (PG c (oIx req)))):=Off.upd ⟨n,oIx req,hn,uF req,rfl⟩;rw[Bv,rY]at q2 hset;by_cases hfull:c.out=(((fab.port n).sort req).length:Int)
  ·have hp:fab.send p=(fab,5):=by
    simp only[Fab.send];rw[if_neg hbad,hsn,hout,if_pos (Int.le_of_eq hfull)]
   rw[if_pos hfull]at q1 q2 hset;rw[fO (by rw[gY (F.port hn) (uF req),Bv,rY])]at q2;rw[hp];exact⟨H',g,run _ q1,q2,F,Off.refl _ _,st0.trans q3⟩
  ·have hp:fab.send p=(fab.put n ((fab.port n).kM req ((fab.port n).sort req++[p])),0):=by
    simp only[Fab.send];rw[if_neg hbad,hsn,hout,if_neg (λh=>hfull (Int.le_antisymm h hle))]
   rw[if_neg hfull]at q1 q2 hset;rw[hp];refine⟨H',_,run _ q1,q2,?_,hset,st0.trans q3⟩;have:=F.fill J hn (uF req) (p':=(fab.port n).kM req ((fab.port n).sort req++[p])) (l:=(fab.port n).sort req++[p]) (zQ _ _ _);rw[rY]at this;exact this
end
section
variable {b:Nat}{H:ah}{g:bF}{f:Nat}{P:Nat->Nat->Nat}{c:Cfg}{fab:Fab}
def iD.av4(G:Good b H g)(F:iD g f P c fab){q:Nat}(h:PE P fab.l.length q):q<H.next:=by
 obtain⟨i,s,hi,d,rfl⟩:=h;exact G.lt (gY (F.port hi) d)
def iD.Vf(G:Good b H g)(F:iD g f P c fab):¬PE P fab.l.length H.next:=λh=>Nat.lt_irrefl _ (F.av4 G h)
def alu {K:ah}{g:bF}{r:Nat}{ys:List AV}(k:Good b K g)(hk:K.base<=b)(m:g r=some (ys.map Cell.av))(j:ys.length=9){y:List AV}(d:y.length=9)(ha:y.all AV.aS=true):
  ∃K',st 9 (.ref r 0 0) (.agg y) K=some (aY,K')/\lda 9 (.ref r 0 0) K'=some (.agg y,K')/\Good b K' (upd g r (y.map Cell.av))/\Step b K K':=by
 obtain⟨K',o,h,p,q⟩:=k.stores hk m (i:=0) (n:=9) (vs:=y) (by simp[j]) d ha;have e:rE (ys.map Cell.av) 0 y=y.map Cell.av:=by
  unfold rE;rw[zaP (by simp[d,j])];simp
 rw[e]at h;exact⟨K',o,h.loads aT (i:=0) (n:=9) (xs:=y) (by rw[zaS,zay (by simp[d])]) d J,h,p⟩
def acV(G:Good b H g)(hb:H.base<=b)(F:iD g f P c fab)(J:UW P fab.l.length)(K:FOk c fab)(i:Int)(req:Bool):
  ∃H' g',cl 183 [.ref f 0 0,I i,B req] H=some (iG (fab.take i req).2,H')/\Good b H' g'/\iD g' f P c (fab.take i req).1/\Off (PE P fab.l.length) g g'/\Step b H H':=by
 have hb0:H.base<=H.next:=zav hb G.1
 have G1:=G.newObj (ty:=81) (xs:=zP9) rfl;have S1:uJ g (upd g H.next (zP9.map Cell.av)):=(uJ.refl g).more (G.isNone (zac _)) _;have F1:=F.sub S1;have e1:=FY G1 F1 K.len i;have ez:bd 81 []=some (.agg zP9):=by simp only[xq_,zC,jg,dY]
 cases hi:fab.is i with
 |false=>
  rw[hi]at e1;have hp:fab.take i req=(fab,none):=by simp[Fab.take,hi]
  rw[hp];obtain⟨K',t1,t2,t3,t4⟩:=alu G1 (by rw[jh];exact hb) aT rfl (y:=zP9) rfl rfl;refine⟨K',g,bn rfl rfl (aiO _ _ _ _ _ ?_),t3.sub (by rw[pz];exact S1),F,Off.refl _ _,(Step.new _ G.1).trans t4⟩;simp only[xq_,abJ,e1,zai,ez,t1,t2,iG,zaZ,zaK,fJ]
 |true=>
  rw[hi]at e1;obtain⟨n,rfl,hn⟩:=Bz hi;obtain⟨x,r,gg,o,h1,h2,h3⟩:=BA G1 F1 hn;obtain⟨K1,s1,s2⟩:=Gf (H.new (.blk 0 81 zP9)) (by rw[jh,eF];omega) (P n) req;have G2:Good b K1 _:=G1.ext s2.next s2.same
  have hbx:=gY (F1.port hn) (rZ req);have hbK:K1.base<=b:=by rw[s2.base,jh];exact hb
  have st1:Step b H K1:=(Step.new _ G.1).trans ⟨s2.base,s2.next,λr hr=>s2.same r (zax hr G1.1)⟩;obtain⟨K2,q1,q2,q3⟩:=ab2 G2 hbK hbx (K.small (Fab.vN hn) (rZ req)) (K.dat _ (Fab.vN hn) _ (rZ req));have hpn:P n (iIx req)≠H.next:=λe=>F.Vf G ⟨n,iIx req,hn,rZ req,e.symm⟩
  rw[Jk]at q1 q2;obtain⟨K3,t1,t2,t3,t4⟩:=alu q2 (by rw[q3.base];exact hbK) (r:=H.next) (ys:=zP9) (by rw[bD hpn.symm,aT]) rfl (y:=(((fab.port n).um req).head?.getD .zero).av) (bZ _) (aW _);have l1:(afQ (P n) req)[1]?=some (.ref (P n (iIx req)) 0 0):=rfl;have run:cl 183 [.ref f 0 0,I n,B req] H=some (iG ((fab.port n).um req).head?,K3):=by
   refine bn rfl rfl (aiO _ _ _ _ _ ?_);simp only[iG]at q1;simp only[xq_,abJ,e1,zae,h1,h2,h3,s1,l1,q1,t1,t2,iG]
  have hsub:uJ (upd g (P n (iIx req)) (nO ((fab.port n).um req).tail (PG c (iIx req)))) (upd (upd (upd g H.next (zP9.map Cell.av)) (P n (iIx req)) (nO ((fab.port n).um req).tail (PG c (iIx req)))) H.next ((((fab.port n).um req).head?.getD .zero).av.map Cell.av)):=
   (S1.both _ _).more (Ah (G.isNone (zac _)) hpn.symm) _
  have G3:=t3.sub hsub;cases hz:(fab.port n).um req with
  |nil=>
   have hp:fab.take n req=(fab,none):=by simp[Fab.take,hi,hz]
   rw[hz]at run G3;rw[hp];rw[List.tail_nil,fO (by rw[gY (F.port hn) (rZ req),Jk,hz])]at G3;exact⟨K3,g,run,G3,F,Off.refl _ _,(st1.trans q3).trans t4⟩
  |cons p l=>
   have hp:fab.take n req=(fab.put n ((fab.port n).lq req l),some p):=by simp[Fab.take,hi,hz]
   rw[hz]at run G3;rw[hp];refine⟨K3,_,run,G3,?_,Off.upd ⟨n,iIx req,hn,rZ req,rfl⟩,(st1.trans q3).trans t4⟩;exact F.fill J hn (rZ req) (p':=(fab.port n).lq req l) (l:=l) (Dn _ _ _)
def Dq(G:Good b H g)(hb:H.base<=b)(F:iD g f P c fab)(J:UW P fab.l.length)(K:FOk c fab)(i:Int):
  ∃H' g',cl 144 [.ref f 0 0,I i] H=some (iG (fab.take i true).2,H')/\Good b H' g'/\iD g' f P c (fab.take i true).1/\Off (PE P fab.l.length) g g'/\Step b H H':=by
 have G1:=G.newObj (ty:=81) (xs:=zP9) rfl;have S1:uJ g (upd g H.next (zP9.map Cell.av)):=(uJ.refl g).more (G.isNone (zac _)) _;have F1:=F.sub S1;obtain⟨K1,g',q1,q2,q3,q4,q5⟩:=acV G1 (by rw[jh];exact hb) F1 J K i true;have hg':g' H.next=some (zP9.map Cell.av):=by rw[q4 _ (F.Vf G),aT]
 obtain⟨K2,t1,t2,t3,t4⟩:=alu q2 (by rw[q5.base,jh];exact hb) hg' rfl (y:=((fab.take i true).2.getD .zero).av) (bZ _) (aW _);let g2:bF:=λq=>if q=H.next then none else g' q
 have hn:g H.next=none:=G.isNone (zac _)
 have F2:iD g2 f P c (fab.take i true).1:=by
  have ne:∀q cs,g' q=some cs->q≠H.next->g2 q=some cs:=λq cs h1 h2=>by simp only[g2];rw[if_neg h2];exact h1
  have hlen:(fab.take i true).1.l.length=fab.l.length:=by
   unfold Fab.take;split
   ·split
    ·rfl
    ·simp[Fab.put]
   ·rfl
  have fn:f≠H.next:=G.ne F.1
  refine⟨ne _ _ q3.1 fn,λj p hj=>Bq λs hs=>ne _ _ (gY (q3.2.1 j p hj) hs) λe=>?_,q3.2.2⟩;have hjl:j<fab.l.length:=by rw[<-hlen];exact(zaf.1 hj).1
  exact F.Vf G ⟨j,s,hjl,hs,e.symm⟩
 refine⟨K2,g2,bn rfl rfl (apb _ _ _ _ ?_),t3.sub λq cs h=>?_,F2,λq hq=>?_,((Step.new _ G.1).trans q5).trans t4⟩
 ·simp only[iG]at q1;simp only[xq_,aij,q1,t1,t2,iG]
 ·simp only[g2]at h;split at h
  ·cases h
  ·rename_i hne;rw[bD hne];exact h
 ·simp only[g2];split
  ·rename_i e;rw[e,hn]
  ·rename_i hne;rw[q4 q hq,bD hne]
def OQ(G:Good b H g)(hb:H.base<=b)(F:iD g f P c fab)(J:UW P fab.l.length)(K:FOk c fab)(i:Int):
  ∃H' g',cl 134 [.ref f 0 0,I i] H=some (iG (fab.take i false).2,H')/\Good b H' g'/\iD g' f P c (fab.take i false).1/\Off (PE P fab.l.length) g g'/\Step b H H':=by
 have G1:=G.newObj (ty:=81) (xs:=zP9) rfl;have S1:uJ g (upd g H.next (zP9.map Cell.av)):=(uJ.refl g).more (G.isNone (zac _)) _;have F1:=F.sub S1;obtain⟨K1,g',q1,q2,q3,q4,q5⟩:=acV G1 (by rw[jh];exact hb) F1 J K i false;have hg':g' H.next=some (zP9.map Cell.av):=by rw[q4 _ (F.Vf G),aT]
 obtain⟨K2,t1,t2,t3,t4⟩:=alu q2 (by rw[q5.base,jh];exact hb) hg' rfl (y:=((fab.take i false).2.getD .zero).av) (bZ _) (aW _);let g2:bF:=λq=>if q=H.next then none else g' q
 have hn:g H.next=none:=G.isNone (zac _)
 have F2:iD g2 f P c (fab.take i false).1:=by
  have ne:∀q cs,g' q=some cs->q≠H.next->g2 q=some cs:=λq cs h1 h2=>by simp only[g2];rw[if_neg h2];exact h1
  have hlen:(fab.take i false).1.l.length=fab.l.length:=by
   unfold Fab.take;split
   ·split
    ·rfl
    ·simp[Fab.put]
   ·rfl
  have fn:f≠H.next:=G.ne F.1
  refine⟨ne _ _ q3.1 fn,λj p hj=>Bq λs hs=>ne _ _ (gY (q3.2.1 j p hj) hs) λe=>?_,q3.2.2⟩;have hjl:j<fab.l.length:=by rw[<-hlen];exact(zaf.1 hj).1
  exact F.Vf G ⟨j,s,hjl,hs,e.symm⟩
 refine⟨K2,g2,bn rfl rfl (aoZ _ _ _ _ ?_),t3.sub λq cs h=>?_,F2,λq hq=>?_,((Step.new _ G.1).trans q5).trans t4⟩
 ·simp only[iG]at q1;simp only[xq_,aib,q1,t1,t2,iG]
 ·simp only[g2]at h;split at h
  ·cases h
  ·rename_i hne;rw[bD hne];exact h
 ·simp only[g2];split
  ·rename_i e;rw[e,hn]
  ·rename_i hne;rw[q4 q hq,bD hne]
end
section
variable {b:Nat}{H:ah}{g:bF}{q:Nat}{l:List Pkt}{room:Int}
def YX(G:Good b H g)(hb:H.base<=b)(h:g q=some (nO l room))(h3:l.length<1000)(hd:∀p∈l,p.data.length<1000000000)(k:Nat)(hk:k<l.length):
  ∃v H',cl 94 [.ref q 0 0,I k] H=some (v,H')/\Good b H' (upd g q (nO (l.eraseIdx k) room))/\Step b H H':=by
 obtain⟨p,hp⟩:∃p,l[k]?=some p:=⟨_,zab hk⟩
 have hq:=G.lt h;have G1:=G.newObj (ty:=81) (xs:=zP9) rfl;have h1:upd g H.next (zP9.map Cell.av) q=some (nO l room):=by rw[bD (by omega)];exact h
 have e1:=ab3 G1 h1 h3 hd k;rw[if_neg (by omega),zam,hp]at e1;simp only[iG,zat,zaO]at e1;have hb0:H.base<=H.next:=zav hb G.1
 have G2:=G1.newObj (ty:=81) (xs:=p.av) (aW _);have h2:upd (upd g H.next (zP9.map Cell.av)) (H.next+1) (p.av.map Cell.av) q=some (nO l room):=by rw[bD (by omega)];exact h1
 obtain⟨x,x',K1,K2,s1,s2,s3,s4,s5⟩:=Xm G2 (by rw[jh,jh];omega) h2 h3 hk;have G3:Good b K2 _:=s4;let gz:=upd (upd (upd g H.next (zP9.map Cell.av)) (H.next+1) (p.av.map Cell.av)) q (nO (l.eraseIdx k) room);have q2:gz (H.next+1)=some (p.av.map Cell.av):=by simp only[gz];rw[bD (by omega),aT]
 have q1:gz H.next=some (zP9.map Cell.av):=by simp only[gz];rw[bD (by omega),bD (by omega),aT]
 have l2:=G3.loads q2 (i:=0) (n:=9) (xs:=p.av) rfl rfl (by decide);obtain⟨K3,t1,t2,t3,t4⟩:=G3.stores (by rw[s5.base,jh,jh];exact hb) q1 (i:=0) (n:=9) (vs:=p.av) (by decide) rfl (aW _);have l3:=t2.loads aT (i:=0) (n:=9) (xs:=p.av) rfl rfl (by decide);have w1:=wrap_i64 (a:=(k:Int)+1) (by omega) (by omega);have n1:g H.next=none:=G.isNone (zac _)
 have n2:g (H.next+1)=none:=G.isNone (by omega);refine⟨.tup [.agg p.av,B true],K3,bn rfl rfl (auc _ _ _ _ ?_),t2.sub (((((uJ.refl g).more n1 _).more n2 _).both q _).more (Ah n1 (by omega)) _),(((Step.new _ G.1).trans (Step.new _ (G.new _).1)).trans s5).trans t3⟩;simp only[Nat.reduceAdd,aN,xq_,hq_,aos,e1,UF,hb0,bI,w1,s1,s2,s3,l2,t1,l3]
end
def wC {β:Type}{r gg o:Nat}{H H':ah}{k:Option β}(h:H'.get r=H.get r):ck (bQ (.ref r gg o)) H H' k=k:=YO λx b=>by
 simp only[bQ,zaa]at b;subst b;exact h
section
variable {β:Type}{r gg o:Nat}{X X':ah}{a a' c c':gB}{k:Option β}
def ckN(h:r<X.next):ck (bQ (.ref r gg o)) (X.new a) (X.new a') k=k:=wC (by rw[bC h,bC h])
def ckM(h:r=X.next)(h':X'.next=X.next):ck (bQ (.ref r gg o)) ((X.new a).new c) ((X'.new a).new c') k=k:=wC (by rw[bC (H:=X'.new a) (by rw[eF,h'];omega),bC (H:=X.new a) (by rw[eF];omega),aP (h.trans h'.symm),aP h])
end
def aq9 {β:Type}{l:List Int}{H H':ah}{k:Option β}:ck (bQ (dat l)) H H' k=k:=YO λx b=>by
 by_cases h:l=[]
 ·subst h;simp[dat,gI,bQ]at b
 ·rw[qH h]at b;simp[bQ]at b
def lU:bU.zero.av=[zI,zI,zI,zI,zI,zI,zN,zI,zI]:=by simp[bU.zero,bU.av,dat,gI]
def acW(p:bU){d:Nat}:∀x∈p.av,Frz (d+2) x:=λx b=>by
 simp only[bU.av,zao,zaB,or_false]at b;rcases b with rfl|rfl|rfl|rfl|rfl|rfl|rfl|rfl|rfl <;> first|exact fC|exact sK
def acX(H:ah)(k:Int):cl 223 [I k] H=some (I (Aj k),H):=by
 refine bn rfl rfl (aqi _ _ _ ?_);unfold Aj;by_cases b:k=1
 ·simp only[Int.reduceEq,xq_,Ef,b]
 ·by_cases d:k=2
  ·simp only[Int.reduceEq,xq_,Ef,d]
  ·by_cases e:k=3
   ·simp only[Int.reduceEq,xq_,Ef,e]
   ·by_cases g:k=4
    ·simp only[Int.reduceEq,xq_,Ef,g]
    ·by_cases h:k=5
     ·simp only[Int.reduceEq,xq_,Ef,h]
     ·by_cases i:k=6
      ·simp only[Int.reduceEq,xq_,Ef,i]
      ·simp only[xq_,Ef,b,d,e,g,h,i]
def afR(H:ah)(aU ak id:Int):cl 200 [I aU,I ak,I id] H=some (.agg (bU.begin aU ak id).av,H):=by
 refine bg rfl rfl (ap2 _ _ _ _ _) ?_ (mF (acW _));have b:dat ([]:List Int)=zN:=by simp[dat,gI]
 simp only[Int.reduceNeg,Nat.reduceAdd,Nat.reduceLeDiff,aN,xq_,hq_,aiX,aaA,jg,fK,amR,bU.begin,bU.av,b]
def Vg(H:ah)(d:bU)(p:Pkt):cl 216 [.agg d.av,.agg p.av] H=some (B (d.fits p),H):=by
 refine bg rfl rfl (aqa _ _ _ _) ?_ fC;have b:=λH=>acX H d.step;have e:=λH=>Rz H (Aj d.step);unfold bU.fits;by_cases g:DW (Aj d.step)=0
 ·simp only[Nat.reduceLT,xq_,hq_,Lc,aC,bU.av,Pkt.av,b,e,g,zae,zaL,not_true_eq_false]
 ·by_cases h:p.aU=DW (Aj d.step)
  ·by_cases i:p.id=d.id
   ·by_cases j:p.ak=d.ak
    ·simp only[Nat.reduceLT,xq_,hq_,Lc,aC,bU.av,Pkt.av,b,e,g,h,i,j,zai]
    ·simp only[Nat.reduceLT,xq_,hq_,Lc,aC,bU.av,Pkt.av,b,e,g,h,i,j,zai,zb3]
   ·simp only[Nat.reduceLT,xq_,hq_,Lc,aC,bU.av,Pkt.av,b,e,g,h,i,zai,zaL,zb3]
  ·simp only[Nat.reduceLT,xq_,hq_,Lc,aC,bU.av,Pkt.av,b,e,g,h,zai,zaL,zb3]
def ara(H:ah)(d:bU)(bH home:Int)(p:d.data.length<1000000000):cl 192 [.agg d.av,I bH,I home] H=some (.agg (d.ask bH home).av,H):=by
 refine bg rfl rfl (apP _ _ _ _ _) ?_ (mF (XH _));have g:=λH k=>acX H k;have e:dat ([]:List Int)=zN:=by simp[dat,gI]
 have q:=λH=>ku H d.data p;have u:=λH=>(fH H d.data).lnS;have b:∀k,bd 81 [(0,I k),(1,I bH),(2,I home),(3,I d.id),(4,I d.ak)]=some (.agg [I k,I bH,I home,I d.id,I d.ak,zI,zI,zB,zN]):=λk=>by
  simp only[xq_,zC,jg,fK,Ue];rfl
 have v:bd 81 []=some (.agg zP9):=by simp only[xq_,zC,jg,dY]
 unfold bU.ask;by_cases h:d.step=1
 ·simp only[Nat.reduceLT,Int.reduceEq,Nat.reduceAdd,Nat.reduceLeDiff,aN,xq_,hq_,Ee,aC,bU.av,g,h,b,Aj,Pkt.av,e]
 ·by_cases i:d.step=2
  ·simp only[Nat.reduceLT,Int.reduceEq,Nat.reduceAdd,Nat.reduceLeDiff,aN,xq_,hq_,Ee,oO,aC,bU.av,g,i,b,Aj,Pkt.av,e]
  ·by_cases j:d.step=3
   ·simp only[Nat.reduceLT,Int.reduceEq,Nat.reduceAdd,Nat.reduceLeDiff,aN,xq_,hq_,Ee,oO,aC,bU.av,g,j,b,Aj,Pkt.av,e]
   ·by_cases m:d.step=4
    ·simp only[Nat.reduceLT,Int.reduceEq,Nat.reduceAdd,Nat.reduceLeDiff,aN,xq_,hq_,Ee,oO,aC,bU.av,g,m,b,Aj,Pkt.av,e,ckN]
    ·by_cases n:d.step=5
     ·simp only[Nat.reduceLT,Int.reduceEq,Nat.reduceAdd,Nat.reduceLeDiff,aN,xq_,hq_,Ee,oO,aC,bU.av,g,n,b,Aj,Pkt.av,e,ckN]
     ·by_cases o:d.step=6
      ·have w:decide (d.data≠[])=decide ((0:Int)<d.data.length):=by
        cases d.data with
        |nil=>rfl
        |cons a l=>
         have:(0:Int)<((a::l).length:Int):=by simp only[zak];omega
         simp only[this,ne_eq,decide_true];rfl
       simp only[Nat.reduceLT,Int.reduceEq,Nat.reduceAdd,Nat.reduceLeDiff,aN,xq_,hq_,Ee,oO,aC,bU.av,g,o,b,Aj,Pkt.av,q,u,w,ckN,aq9]
      ·simp only[Nat.reduceLT,Nat.reduceAdd,Nat.reduceLeDiff,aN,xq_,hq_,Ee,aC,bU.av,g,h,i,j,m,n,o,b,v,fJ]
abbrev Lcl:=Nat->Option (List AV)
def iH(ls:Lcl)(r:Nat)(xs:List AV):Lcl:=λx=>if x=r then some xs else ls x
def noL:Lcl:=λ_=>none
def lay(g:bF)(ls:Lcl):bF:=λq=>match ls q with
 |some xs=>some (xs.map Cell.av)
 |none=>g q
structure Loc(b:Nat)(K:ah)(g:bF)(ls:Lcl):Prop where
 good:Good b K (lay g ls)
 free:∀r,ls r≠none->g r=none
section
variable {b:Nat}{K:ah}{g:bF}{ls:Lcl}{r q:Nat}{xs:List AV}
def aj:iH ls r xs r=some xs:=by simp[iH]
def aB {x:Nat}(h:x≠r):iH ls r xs x=ls x:=by simp[iH,h]
def acY:lay g (iH ls r xs)=upd (lay g ls) r (xs.map Cell.av):=by
 funext x
 simp only[lay,iH,upd];by_cases h:x=r
 ·simp[h]
 ·simp[h]
def OT {cs:List Cell}(h:ls q=none):lay (upd g q cs) ls=upd (lay g ls) q cs:=by
 funext x
 simp only[lay,upd];by_cases b:x=q
 ·subst b;simp[h]
 ·simp[b]
def Loc.of(G:Good b K g):Loc b K g noL:=⟨G,λ_ h=>absurd rfl h⟩
def Loc.out(L:Loc b K g ls):Good b K g:=L.good.sub λq cs h=>by
 unfold lay;cases d:ls q with
 |none=>exact h
 |some xs=>rw[L.free q (by rw[d];simp)]at h;cases h
def Loc.new(L:Loc b K g ls)(o:gB):Loc b (K.new o) g ls:=⟨L.good.new o,L.free⟩
def Loc.newL(L:Loc b K g ls){ty:TypeId}(hc:xs.all AV.aS=true)(hr:r=K.next)(ht:ty<gV:=by decide):Loc b (K.new (.blk 0 ty xs)) g (iH ls r xs):=by
 subst hr;refine⟨by rw[acY];exact L.good.newObj hc ht,λx hx=>?_⟩;by_cases h:x=K.next
 ·rw[h];exact L.out.isNone (zac _)
 ·rw[aB h]at hx;exact L.free x hx
def pR(h:ls r=some xs):lay g ls r=some (xs.map Cell.av):=by simp[lay,h]
def Loc.at_(L:Loc b K g ls){cs:List Cell}(h:g q=some cs):lay g ls q=some cs/\ls q=none:=by
 cases d:ls q with
 |none=>exact⟨by simp[lay,d,h],rfl⟩
 |some xs=>rw[L.free q (by rw[d];simp)]at h;cases h
def Loc.obj(L:Loc b K g ls){cs:List Cell}(h:g q=some cs):lay g ls q=some cs:=(L.at_ h).1
def Loc.ld(L:Loc b K g ls)(h:ls r=some xs){i:Nat}{v:AV}(hi:xs[i]?=some v):ld (.ref r 0 i) K=some (v,K):=
 L.good.load (pR h) (i:=i) (x:=v) (by rw[zaw,hi];rfl)
def Loc.lda(L:Loc b K g ls)(h:ls r=some xs){i n:Nat}{ys:List AV}(hi:(xs.drop i).take n=ys)(d:ys.length=n)(e:0<n):lda n (.ref r 0 i) K=some (.agg ys,K):=
 L.good.loads (pR h) (i:=i) (n:=n) (xs:=ys) (by rw[<-hi,zcy,zdo]) d e
def YZ {i:Nat}{vs:List AV}:rE (xs.map Cell.av) i vs=(aN xs i vs).map Cell.av:=by
 simp only[rE,aN,zbn,zcy,zdo]
def Loc.alq(L:Loc b K g ls)(h:ls r=some xs){K':ah}{ys:List AV}(G:Good b K' (upd (lay g ls) r (ys.map Cell.av))):Loc b K' g (iH ls r ys):=by
 refine⟨by rw[acY];exact G,λx d=>?_⟩;by_cases e:x=r
 ·subst e;exact L.free x (by rw[h];simp)
 ·rw[aB e]at d;exact L.free x d
def Loc.st(L:Loc b K g ls)(hb:K.base<=b)(h:ls r=some xs){i:Nat}{v:AV}(hi:i<xs.length)(hv:One v):∃K',st 1 (.ref r 0 i) v K=some (aY,K')/\Loc b K' g (iH ls r (xs.set i v))/\Step b K K':=by
 obtain⟨K',e,d,j,k⟩:=L.good.store hb (pR h) (i:=i) (by simpa using hi) hv;rw[<-List.map_set]at d;exact⟨K',e,L.alq h d,j⟩
def Loc.sta(L:Loc b K g ls)(hb:K.base<=b)(h:ls r=some xs){i n:Nat}{vs:List AV}(hi:i+n<=xs.length)(e:vs.length=n)(hv:vs.all AV.aS=true):∃K',Proofs.YtgplhpgkompkmaaGreat.st n (.ref r 0 i) (.agg vs) K=some (aY,K')/\Loc b K' g (iH ls r (aN xs i vs))/\Step b K K':=by
 obtain⟨K',j,d,k,m⟩:=L.good.stores hb (pR h) (i:=i) (by simpa using hi) e hv;rw[YZ]at d;exact⟨K',j,L.alq h d,k⟩
def acZ {vs:List AV}(h:vs.length=xs.length):aN xs 0 vs=vs:=by
 unfold aN;rw[zdF,zaN,za7,zaP V,zbd]
def Loc.whole(L:Loc b K g ls)(hb:K.base<=b)(h:ls r=some xs){n:Nat}{vs:List AV}(o:xs.length=n)(e:vs.length=n)(j:0<n)(hv:vs.all AV.aS=true):∃K',Proofs.YtgplhpgkompkmaaGreat.st n (.ref r 0 0) (.agg vs) K=some (aY,K')/\Proofs.YtgplhpgkompkmaaGreat.lda n (.ref r 0 0) K'=some (.agg vs,K')/\Loc b K' g (iH ls r vs)/\Step b K K':=by
 obtain⟨K',k,d,m⟩:=L.sta hb h (i:=0) (n:=n) (vs:=vs) V e hv;rw[acZ V]at d;exact⟨K',k,d.lda aj (i:=0) (n:=n) (by rw[zaS,zay V]) e j,d,m⟩
def Loc.call(L:Loc b K g ls){d cs:List Cell}(k:g q=some d){K':ah}(G:Good b K' (upd (lay g ls) q cs)):Loc b K' (upd g q cs) ls:=by
 obtain⟨m,i⟩:=L.at_ k;refine⟨by rw[OT i];exact G,λr j=>?_⟩;have h:r≠q:=λe=>by subst e;exact j i
 rw[bD h];exact L.free r j
def Good.exact {b:Nat}{K:ah}{g:bF}{r:Nat}{xs:List AV}(G:Good b K g)(h:g r=some (xs.map Cell.av)):∃ty,K.get r=.blk 0 ty xs/\ty<gV:=by
 obtain⟨_,τ,m⟩:=G;have R:=m r _ h;obtain⟨ty,d,e,j,o,n⟩:=R.blk;have:d=xs:=by
  apply zbc
  intro i;rcases zaU i xs.length with hi|hi
  ·have k:d[i]?=some (d[i]'(by simp at j;omega)):=zab _;have:=n i (.av xs[i]) _ (by simp[hi]) k;simp only[CR]at this;rw[k,this];simp[hi]
  ·rw[zaI (by simp at j;omega),zaI hi]
 subst this;exact⟨ty,e,R.tyl _ _ _ e⟩
def XK {b:Nat}{K K':ah}{g g':bF}{r:Nat}{xs:List AV}(G:Good b K g)(G':Good b K' g')(hk:Keeps K K')(h:g r=some (xs.map Cell.av))(j:g' r=some (xs.map Cell.av)):K'.get r=K.get r:=by
 have m:=G.lt h;obtain⟨q,d,u⟩:=G.exact h;obtain⟨n,e,o⟩:=G'.exact j;obtain⟨v,p,w,i,k⟩:=hk.types r m _ _ _ d;rw[e]at i;cases i;rcases k with rfl|k
 ·rw[d,e]
 ·exact absurd k (Nat.not_le.2 o)
end
structure COk(ca:Cache):Prop where
 len:ca.l.length<1000000
 sets:1<=ca.sets
 clk:0<=ca.dM/\ca.dM<1000000000
 dat:∀e∈ca.l,e.data.length<1000000000
 used:∀e∈ca.l,0<=e.used/\e.used<1000000000
def BD {b:Nat}{H:ah}{g:bF}{q:Nat}(G:Good b H g)(hb:H.base<=b){c:Cache}(h:g q=some (dD c))(C:COk c)(e:Ent)(d:e.data.length<1000000000):
  ∃H',cl 191 [.ref q 0 0,.agg e.av] H=some (I (c.put e).2,H')/\Good b H' (upd g q (dD (c.put e).1))/\Step b H H':=
 XA G hb h C.len C.sets C.clk e d (pX _ e.data)
def uK(n:Nxt):AV:=.tup [.agg n.2.1.av,B n.2.2]
abbrev zD9:List AV:=[zI,zI,zI,zI,zI,zI,zN,zI,zI]
def Em:dat ([]:List Int)=zN:=by simp[dat,gI]
section
variable {b:Nat}{H:ah}{g:bF}{q:Nat}{ca:Cache}
def alv(G:Good b H g)(hb:H.base<=b)(h:g q=some (dD ca))(C:COk ca)(d:bU)(bH:Int)(p:Pkt)(hp:p.data.length<1000000000):
  ∃H',cl 218 [.agg d.av,I bH,.ref q 0 0,.agg p.av] H=some (uK ((ca.put ⟨d.head,-1,d.ak,0,false,p.data⟩).1,{ d with step:=6,state:=1,head:=bH,data:=if p.flag then p.data else [] },true),H')/\
   Good b H' (upd g q (dD (ca.put ⟨d.head,-1,d.ak,0,false,p.data⟩).1))/\Step b H H':=by
 refine kN rfl rfl (aqd _ _ _ _ _ _) ?_;have L1:=(Loc.of G).newL (ty:=73) (xs:=d.av) (r:=H.next) (bG d) rfl;have L2:=L1.newL (ty:=81) (xs:=p.av) (r:=H.next+1) (aW p) (by rw[eF]);have L3:=L2.newL (ty:=73) (xs:=zD9) (r:=H.next+1+1) rfl (by rw[eF,eF]);have s3:Step b H _:=((Step.new (.blk 0 73 d.av) G.1).trans (Step.new (.blk 0 81 p.av) L1.good.1)).trans (Step.new (.blk 0 73 zD9) L2.good.1);have d1:=L3.ld (r:=H.next) (i:=1) (v:=I d.ak) (by first|exact aj|(rw[aB (by omega)];first|exact aj|(rw[aB (by omega)];first|exact aj|(rw[aB (by omega)];first|exact aj|(rw[aB (by omega)];first|exact aj|(rw[aB (by omega)];exact aj)))))) rfl;have d5:=L3.ld (r:=H.next) (i:=5) (v:=I d.head) (by first|exact aj|(rw[aB (by omega)];first|exact aj|(rw[aB (by omega)];first|exact aj|(rw[aB (by omega)];first|exact aj|(rw[aB (by omega)];first|exact aj|(rw[aB (by omega)];exact aj)))))) rfl;have p8:=L3.ld (r:=H.next+1) (i:=8) (v:=dat p.data) (by first|exact aj|(rw[aB (by omega)];first|exact aj|(rw[aB (by omega)];first|exact aj|(rw[aB (by omega)];first|exact aj|(rw[aB (by omega)];first|exact aj|(rw[aB (by omega)];exact aj)))))) rfl;have e1:=λH=>acI H d.ak d.head (-1) false hp (pX H p.data);obtain⟨K1,a1,a2,a3⟩:=BD L3.good (by rw[s3.base];exact hb) (L3.obj h) C ⟨d.head,-1,d.ak,0,false,p.data⟩ hp;have M1:=L3.call h a2;have t1:=s3.trans a3;obtain⟨K2,u2,M2,w2⟩:=M1.st (by rw[t1.base];exact hb) (r:=H.next) (by first|exact aj|(rw[aB (by omega)];first|exact aj|(rw[aB (by omega)];first|exact aj|(rw[aB (by omega)];first|exact aj|(rw[aB (by omega)];first|exact aj|(rw[aB (by omega)];exact aj)))))) (i:=3) (v:=I 6) (by simp[bU.av]) dV;have t2:=t1.trans w2;obtain⟨K3,u3,M3,w3⟩:=M2.st (by rw[t2.base];exact hb) (r:=H.next) (by first|exact aj|(rw[aB (by omega)];first|exact aj|(rw[aB (by omega)];first|exact aj|(rw[aB (by omega)];first|exact aj|(rw[aB (by omega)];first|exact aj|(rw[aB (by omega)];exact aj)))))) (i:=4) (v:=I 1) (by simp[bU.av]) dV;have t3:=t2.trans w3;obtain⟨K4,u4,M4,w4⟩:=M3.st (by rw[t3.base];exact hb) (r:=H.next) (by first|exact aj|(rw[aB (by omega)];first|exact aj|(rw[aB (by omega)];first|exact aj|(rw[aB (by omega)];first|exact aj|(rw[aB (by omega)];first|exact aj|(rw[aB (by omega)];exact aj)))))) (i:=5) (v:=I bH) (by simp[bU.av]) dV;have t4:=t3.trans w4;obtain⟨K5,u5,M5,w5⟩:=M4.st (by rw[t4.base];exact hb) (r:=H.next) (by first|exact aj|(rw[aB (by omega)];first|exact aj|(rw[aB (by omega)];first|exact aj|(rw[aB (by omega)];first|exact aj|(rw[aB (by omega)];first|exact aj|(rw[aB (by omega)];exact aj)))))) (i:=6) (v:=zN) (by simp[bU.av]) qx;have t5:=t4.trans w5
 have p7:=M5.ld (r:=H.next+1) (i:=7) (v:=B p.flag) (by first|exact aj|(rw[aB (by omega)];first|exact aj|(rw[aB (by omega)];first|exact aj|(rw[aB (by omega)];first|exact aj|(rw[aB (by omega)];first|exact aj|(rw[aB (by omega)];exact aj)))))) rfl;cases hf:p.flag with
 |true=>
  rw[hf]at p7;have q8:=M5.ld (r:=H.next+1) (i:=8) (v:=dat p.data) (by first|exact aj|(rw[aB (by omega)];first|exact aj|(rw[aB (by omega)];first|exact aj|(rw[aB (by omega)];first|exact aj|(rw[aB (by omega)];first|exact aj|(rw[aB (by omega)];exact aj)))))) rfl;have e2:=λH=>ku H p.data hp;obtain⟨K6,u6,M6,w6⟩:=M5.st (by rw[t5.base];exact hb) (r:=H.next) (by first|exact aj|(rw[aB (by omega)];first|exact aj|(rw[aB (by omega)];first|exact aj|(rw[aB (by omega)];first|exact aj|(rw[aB (by omega)];first|exact aj|(rw[aB (by omega)];exact aj)))))) (i:=6) (v:=dat p.data) (by simp[bU.av]) sJ;have t6:=t5.trans w6;have f1:=M6.lda (r:=H.next) (by first|exact aj|(rw[aB (by omega)];first|exact aj|(rw[aB (by omega)];first|exact aj|(rw[aB (by omega)];first|exact aj|(rw[aB (by omega)];first|exact aj|(rw[aB (by omega)];exact aj)))))) (i:=0) (n:=9) (ys:=(bU.mk d.aU d.ak d.id 6 1 bH p.data d.next d.told).av) rfl rfl (by decide);obtain⟨K7,u7,v7,M7,w7⟩:=M6.whole (by rw[t6.base];exact hb) (r:=H.next+1+1) (by first|exact aj|(rw[aB (by omega)];first|exact aj|(rw[aB (by omega)];first|exact aj|(rw[aB (by omega)];first|exact aj|(rw[aB (by omega)];first|exact aj|(rw[aB (by omega)];exact aj)))))) (n:=9) (vs:=(bU.mk d.aU d.ak d.id 6 1 bH p.data d.next d.told).av) rfl rfl (by decide) (bG _);refine⟨K7,?_,M7.out,t6.trans w7⟩;simp only[Nat.reduceLT,Int.reduceNeg,xq_,abS,FV,aC (bG d),aC (aW p),d1,d5,p8,e1,a1,u2,u3,u4,u5,p7,q8,e2,u6,f1,u7,v7,uK]
 |false=>
  rw[hf]at p7;have f1:=M5.lda (r:=H.next) (by first|exact aj|(rw[aB (by omega)];first|exact aj|(rw[aB (by omega)];first|exact aj|(rw[aB (by omega)];first|exact aj|(rw[aB (by omega)];first|exact aj|(rw[aB (by omega)];exact aj)))))) (i:=0) (n:=9) (ys:=(bU.mk d.aU d.ak d.id 6 1 bH [] d.next d.told).av) (by simp only[bU.av,Em];rfl) rfl (by decide);obtain⟨K7,u7,v7,M7,w7⟩:=M5.whole (by rw[t5.base];exact hb) (r:=H.next+1+1) (by first|exact aj|(rw[aB (by omega)];first|exact aj|(rw[aB (by omega)];first|exact aj|(rw[aB (by omega)];first|exact aj|(rw[aB (by omega)];first|exact aj|(rw[aB (by omega)];exact aj)))))) (n:=9) (vs:=(bU.mk d.aU d.ak d.id 6 1 bH [] d.next d.told).av) rfl rfl (by decide) (bG _);refine⟨K7,?_,M7.out,t5.trans w7⟩;simp only[Nat.reduceLT,Int.reduceNeg,xq_,abS,FV,aC (bG d),aC (aW p),d1,d5,p8,e1,a1,u2,u3,u4,u5,p7,f1,u7,v7,uK]
def vO(d:bU)(bH:Int)(c:Cache)(p:Pkt):Nxt:=
 if p.state≠0 then(c,{ d with state:=p.state,head:=p.ptr,told:=p.ptr,data:=p.data,step:=2 },true)
 else((c.put ⟨-1,-1,d.ak,0,false,p.data⟩).1,{ d with told:=p.ptr,step:=6,state:=1,head:=bH,data:=[] },true)
def ac0(G:Good b H g)(hb:H.base<=b)(h:g q=some (dD ca))(C:COk ca)(d:bU)(bH:Int)(p:Pkt)(hp:p.data.length<1000000000):
  ∃H',cl 217 [.agg d.av,I bH,.ref q 0 0,.agg p.av] H=some (uK (vO d bH ca p),H')/\Good b H' (upd g q (dD (vO d bH ca p).1))/\Step b H H':=by
 have hb0:H.base<=H.next:=zav hb G.1
 have e2:=λH=>ku H p.data hp;refine kN rfl rfl (aqc _ _ _ _ _ _) ?_;by_cases hs:p.state=0;rotate_left
 ·have hm:vO d bH ca p=(ca,{ d with state:=p.state,head:=p.ptr,told:=p.ptr,data:=p.data,step:=2 },true):=by simp only[vO];rw[if_pos hs]
  rw[hm];refine⟨((H.new (.blk 0 73 (bU.mk d.aU d.ak d.id 2 p.state p.ptr p.data d.next p.ptr).av)).new (.blk 0 81 p.av)).new (.blk 0 73 (bU.mk d.aU d.ak d.id 2 p.state p.ptr p.data d.next p.ptr).av),?_,by rw[fO h];exact((G.new _).new _).new _,((Step.new _ G.1).trans (Step.new _ (G.new _).1)).trans (Step.new _ ((G.new _).new _).1)⟩;simp only[Nat.reduceLT,Int.reduceNeg,Nat.reduceAdd,Nat.reduceLeDiff,aN,xq_,hq_,abR,aC,bU.av,Pkt.av,e2,hb0,ckM,hs,zai,uK]
 ·have hm:vO d bH ca p=((ca.put ⟨-1,-1,d.ak,0,false,p.data⟩).1,{ d with told:=p.ptr,step:=6,state:=1,head:=bH,data:=[] },true):=by simp only[vO];rw[if_neg (λh=>h hs)]
  rw[hm];let d2:bU:=bU.mk d.aU d.ak d.id d.step p.state p.ptr p.data d.next p.ptr
  have L1:=(Loc.of G).newL (ty:=73) (xs:=d2.av) (r:=H.next) (bG d2) rfl;have L2:=L1.newL (ty:=81) (xs:=p.av) (r:=H.next+1) (aW p) (by rw[eF]);have L3:=L2.newL (ty:=73) (xs:=zD9) (r:=H.next+1+1) rfl (by rw[eF,eF]);have s3:Step b H _:=((Step.new (.blk 0 73 d2.av) G.1).trans (Step.new (.blk 0 81 p.av) L1.good.1)).trans (Step.new (.blk 0 73 zD9) L2.good.1);have e1:=λH=>acI H d.ak (-1) (-1) false hp (pX H p.data);obtain⟨K1,a1,a2,a3⟩:=BD L3.good (by rw[s3.base];exact hb) (L3.obj h) C ⟨-1,-1,d.ak,0,false,p.data⟩ hp;have M1:=L3.call h a2;have t1:=s3.trans a3;obtain⟨K2,u2,M2,w2⟩:=M1.st (by rw[t1.base];exact hb) (r:=H.next) (by first|exact aj|(rw[aB (by omega)];first|exact aj|(rw[aB (by omega)];first|exact aj|(rw[aB (by omega)];first|exact aj|(rw[aB (by omega)];first|exact aj|(rw[aB (by omega)];exact aj)))))) (i:=3) (v:=I 6) (by simp[bU.av]) dV;have t2:=t1.trans w2;obtain⟨K3,u3,M3,w3⟩:=M2.st (by rw[t2.base];exact hb) (r:=H.next) (by first|exact aj|(rw[aB (by omega)];first|exact aj|(rw[aB (by omega)];first|exact aj|(rw[aB (by omega)];first|exact aj|(rw[aB (by omega)];first|exact aj|(rw[aB (by omega)];exact aj)))))) (i:=4) (v:=I 1) (by simp[bU.av]) dV;have t3:=t2.trans w3;obtain⟨K4,u4,M4,w4⟩:=M3.st (by rw[t3.base];exact hb) (r:=H.next) (by first|exact aj|(rw[aB (by omega)];first|exact aj|(rw[aB (by omega)];first|exact aj|(rw[aB (by omega)];first|exact aj|(rw[aB (by omega)];first|exact aj|(rw[aB (by omega)];exact aj)))))) (i:=5) (v:=I bH) (by simp[bU.av]) dV;have t4:=t3.trans w4;obtain⟨K5,u5,M5,w5⟩:=M4.st (by rw[t4.base];exact hb) (r:=H.next) (by first|exact aj|(rw[aB (by omega)];first|exact aj|(rw[aB (by omega)];first|exact aj|(rw[aB (by omega)];first|exact aj|(rw[aB (by omega)];first|exact aj|(rw[aB (by omega)];exact aj)))))) (i:=6) (v:=zN) (by simp[bU.av]) qx;have t5:=t4.trans w5;have f1:=M5.lda (r:=H.next) (by first|exact aj|(rw[aB (by omega)];first|exact aj|(rw[aB (by omega)];first|exact aj|(rw[aB (by omega)];first|exact aj|(rw[aB (by omega)];first|exact aj|(rw[aB (by omega)];exact aj)))))) (i:=0) (n:=9) (ys:=(bU.mk d.aU d.ak d.id 6 1 bH [] d.next p.ptr).av) (by simp only[bU.av,Em];rfl) rfl (by decide);obtain⟨K7,u7,v7,M7,w7⟩:=M5.whole (by rw[t5.base];exact hb) (r:=H.next+1+1) (by first|exact aj|(rw[aB (by omega)];first|exact aj|(rw[aB (by omega)];first|exact aj|(rw[aB (by omega)];first|exact aj|(rw[aB (by omega)];first|exact aj|(rw[aB (by omega)];exact aj)))))) (n:=9) (vs:=(bU.mk d.aU d.ak d.id 6 1 bH [] d.next p.ptr).av) rfl rfl (by decide) (bG _);refine⟨K7,?_,M7.out,t5.trans w7⟩;simp only[d2,bU.av,Pkt.av,hs,Em]at a1 f1 u7 v7;simp only[Nat.reduceLT,Int.reduceNeg,Nat.reduceAdd,Nat.reduceLeDiff,aN,xq_,hq_,abR,aC,bU.av,Pkt.av,e2,hb0,ckM,hs,zae,e1,a1,u2,u3,u4,u5,f1,u7,v7,uK,Em]
def vP(G:Good b H g)(d:bU)(p:Pkt):∃ls:Lcl,Loc b (((H.new (.blk 0 73 d.av)).new (.blk 0 81 p.av)).new (.blk 0 73 zD9)) g ls/\ls H.next=some d.av/\ls (H.next+1)=some p.av/\ls (H.next+1+1)=some zD9/\
  Step b H (((H.new (.blk 0 73 d.av)).new (.blk 0 81 p.av)).new (.blk 0 73 zD9)):=by
 have L1:=(Loc.of G).newL (ty:=73) (xs:=d.av) (r:=H.next) (bG d) rfl;have L2:=L1.newL (ty:=81) (xs:=p.av) (r:=H.next+1) (aW p) (by rw[eF]);have L3:=L2.newL (ty:=73) (xs:=zD9) (r:=H.next+1+1) rfl (by rw[eF,eF]);exact⟨_,L3,(by first|exact aj|(rw[aB (by omega)];first|exact aj|(rw[aB (by omega)];first|exact aj|(rw[aB (by omega)];first|exact aj|(rw[aB (by omega)];first|exact aj|(rw[aB (by omega)];exact aj)))))),(by first|exact aj|(rw[aB (by omega)];first|exact aj|(rw[aB (by omega)];first|exact aj|(rw[aB (by omega)];first|exact aj|(rw[aB (by omega)];first|exact aj|(rw[aB (by omega)];exact aj)))))),(by first|exact aj|(rw[aB (by omega)];first|exact aj|(rw[aB (by omega)];first|exact aj|(rw[aB (by omega)];first|exact aj|(rw[aB (by omega)];first|exact aj|(rw[aB (by omega)];exact aj)))))),((Step.new (.blk 0 73 d.av) G.1).trans (Step.new (.blk 0 81 p.av) L1.good.1)).trans (Step.new (.blk 0 73 zD9) L2.good.1)⟩
def ac3(G:Good b H g)(hb:H.base<=b)(h:g q=some (dD ca))(C:COk ca)(d:bU)(bH:Int)(p:Pkt)(hp:p.data.length<1000000000):
  ∃H',cl 184 [.agg d.av,I bH,.ref q 0 0,.agg p.av] H=some (uK (dX d bH ca p),H')/\Good b H' (upd g q (dD (dX d bH ca p).1))/\Step b H H':=by
 refine kN rfl rfl (apG _ _ _ _ _ _) ?_;obtain⟨ls,L,k0,k1,k2,s⟩:=vP G d p;have d0:=L.ld k0 (i:=0) (v:=I d.aU) rfl;have d3:=L.ld k0 (i:=3) (v:=I d.step) rfl;have dA:=L.lda k0 (i:=0) (n:=9) (ys:=d.av) rfl rfl (by decide);have pA:=L.lda k1 (i:=0) (n:=9) (ys:=p.av) rfl rfl (by decide);have hf:=λH=>Vg H d p;have ez:bd 73 []=some (.agg zD9):=by simp only[xq_,aaA,jg,dY]
 have hbK:(((H.new (.blk 0 73 d.av)).new (.blk 0 81 p.av)).new (.blk 0 73 zD9)).base<=b:=by rw[s.base];exact hb
 obtain⟨Kz,z1,z2,z3,z4⟩:=L.whole hbK k2 (n:=9) (vs:=zD9) rfl rfl (by decide) rfl;have no:yK ca=(ca,.zero,false):=rfl;have zu:Good b Kz (upd g q (dD ca)):=by rw[fO h];exact z3.out
 by_cases h1:d.aU≠1∨d.fits p=false
 ·have hm:dX d bH ca p=(ca,.zero,false):=by simp only[dX];rw[if_pos h1];rfl
  rw[hm];refine⟨Kz,?_,zu,s.trans z4⟩;by_cases hk:d.aU=1
  ·have hff:d.fits p=false:=h1.resolve_left (λh=>h hk);rw[hk]at d0;simp only[Nat.reduceLT,xq_,I4,aC (bG d),aC (aW p),d0,dA,pA,hf,hff,zae,zai,ez,z1,z2,uK,lU]
  ·simp only[Nat.reduceLT,xq_,I4,aC (bG d),aC (aW p),d0,hk,zai,ez,z1,z2,uK,lU]
 ·have hk:d.aU=1:=Classical.byContradiction λh=>h1 (.inl h);have hff:d.fits p=true:=by cases hx:d.fits p <;> simp_all
  rw[hk]at d0;by_cases s1:d.step=1
  ·have hm:dX d bH ca p=vO d bH ca p:=by simp only[dX,vO];rw[if_neg h1,if_pos s1]
   rw[hm];rw[s1]at d3;obtain⟨K1,a1,a2,a3⟩:=ac0 L.good hbK (L.obj h) C d bH p hp;have M:=L.call h a2;obtain⟨K2,u1,u2,u3,u4⟩:=M.whole (by rw[a3.base];exact hbK) k2 (n:=9) (vs:=(vO d bH ca p).2.1.av) rfl rfl (by decide) (bG _);refine⟨K2,?_,u3.out,(s.trans a3).trans u4⟩;simp only[uK]at a1;simp only[Nat.reduceLT,Int.reduceEq,xq_,I4,aC (bG d),aC (aW p),d0,dA,pA,hf,hff,zae,d3,a1,u1,u2,uK]
  ·by_cases s2:d.step=2
   ·have hm:dX d bH ca p=((ca.put ⟨d.head,-1,d.ak,0,false,p.data⟩).1,{ d with step:=6,state:=1,head:=bH,data:=if p.flag then p.data else [] },true):=by simp only[dX];rw[if_neg h1,if_neg s1,if_pos s2]
    rw[hm];obtain⟨K1,a1,a2,a3⟩:=alv L.good hbK (L.obj h) C d bH p hp;have M:=L.call h a2;obtain⟨K2,u1,u2,u3,u4⟩:=M.whole (by rw[a3.base];exact hbK) k2 (n:=9) (vs:=({ d with step:=6,state:=1,head:=bH,data:=if p.flag then p.data else [] }:bU).av) rfl rfl (by decide) (bG _);refine⟨K2,?_,u3.out,(s.trans a3).trans u4⟩;rw[s2]at d3;simp only[uK]at a1;simp only[Nat.reduceLT,Int.reduceEq,xq_,I4,aC (bG d),aC (aW p),d0,dA,pA,hf,hff,zae,d3,a1,u1,u2,uK]
   ·by_cases s6:d.step=6
    ·have hm:dX d bH ca p=(ca,{ d with step:=0 },true):=by simp only[dX];rw[if_neg h1,if_neg s1,if_neg s2,if_pos s6]
     rw[hm];obtain⟨K1,a1,M,a3⟩:=L.st hbK k0 (i:=3) (v:=I 0) (by simp[bU.av]) dV;have k2':iH ls H.next (d.av.set 3 (I 0)) (H.next+1+1)=some zD9:=by rw[aB (by omega)];exact k2
     have dB:=M.lda aj (i:=0) (n:=9) (ys:=({ d with step:=0 }:bU).av) rfl rfl (by decide);obtain⟨K2,u1,u2,u3,u4⟩:=M.whole (by rw[a3.base];exact hbK) k2' (n:=9) (vs:=({ d with step:=0 }:bU).av) rfl rfl (by decide) (bG _);refine⟨K2,?_,by rw[fO h];exact u3.out,(s.trans a3).trans u4⟩;rw[s6]at d3;simp only[Nat.reduceLT,Int.reduceEq,xq_,I4,aC (bG d),aC (aW p),d0,dA,pA,hf,hff,zae,d3,a1,dB,u1,u2,uK]
    ·have hm:dX d bH ca p=(ca,.zero,false):=by simp only[dX];rw[if_neg h1,if_neg s1,if_neg s2,if_neg s6];rfl
     rw[hm];refine⟨Kz,?_,zu,s.trans z4⟩;simp only[Nat.reduceLT,xq_,I4,aC (bG d),aC (aW p),d0,dA,pA,hf,hff,zae,d3,s1,s2,s6,ez,z1,z2,uK,lU]
end
abbrev zE6:List AV:=[zI,zI,zI,zI,zB,zN]
def oQ {n r gg i:Nat}{v u:AV}{K K':ah}(h:st n (.ref r gg i) v K=some (u,K')){x:Nat}(d:x≠r):K'.get x=K.get x:=by
 unfold st at h;simp only at h;cases b:K.get r with
 |map k e=>rw[b]at h;cases h
 |blk g' g cells=>
  rw[b]at h;simp only at h;split at h
  ·simp only[zaa,zad]at h;rw[<-h.2,dP,if_neg d]
  ·cases h
section
variable {b:Nat}{H:ah}{g:bF}{q:Nat}{ca:Cache}
def vS(d:bU)(bH:Int)(c:Cache):Cache × bU:=
 if d.next≠-1 then(c,{ d with step:=3 })
 else((c.put ⟨-1,-1,d.ak,0,true,d.data⟩).1,{ d with step:=6,state:=2,head:=bH,data:=[] })
def Dt {K:ah}{ls:Lcl}(L:Loc b K g ls)(hb:K.base<=b)(h:g q=some (dD ca))(C:COk ca)(d:bU)(bH:Int)(hd:d.data.length<1000000000){r r':Nat}(hrr:r≠r')(k0:ls r=some d.av)(k1:ls r'=some zD9):
  ∃H',Bf cl (I bH) (.ref q 0 0) (.ref r 0 0) (.ref r' 0 0) K=some (.agg (vS d bH ca).2.av,H')/\Good b H' (upd g q (dD (vS d bH ca).1))/\Step b K H':=by
 have d7:=L.ld k0 (i:=7) (v:=I d.next) rfl;by_cases hn:d.next=-1
 rotate_left
 ·have hm:vS d bH ca=(ca,{ d with step:=3 }):=by unfold vS;rw[if_pos hn]
  rw[hm];obtain⟨K1,a1,M1,a3⟩:=L.st hb k0 (i:=3) (v:=I 3) (by simp[bU.av]) dV;have k2':iH ls r (d.av.set 3 (I 3)) r'=some zD9:=by rw[aB hrr.symm];exact k1
  have dB:=M1.lda aj (i:=0) (n:=9) (ys:=({ d with step:=3 }:bU).av) rfl rfl (by decide);obtain⟨K2,u1,u2,u3,u4⟩:=M1.whole (by rw[a3.base];exact hb) k2' (n:=9) (vs:=({ d with step:=3 }:bU).av) rfl rfl (by decide) (bG _);refine⟨K2,?_,by rw[fO h];exact u3.out,a3.trans u4⟩;simp only[Int.reduceNeg,xq_,Bf,d7,hn,zai,a1,dB,u1,u2]
 ·have hm:vS d bH ca=((ca.put ⟨-1,-1,d.ak,0,true,d.data⟩).1,{ d with step:=6,state:=2,head:=bH,data:=[] }):=by unfold vS;rw[if_neg (λh=>h hn)]
  rw[hm];have d1:=L.ld k0 (i:=1) (v:=I d.ak) rfl;have d6:=L.ld k0 (i:=6) (v:=dat d.data) rfl;have e1:=λH=>acI H d.ak (-1) (-1) true hd (pX H d.data);obtain⟨K1,a1,a2,a3⟩:=BD L.good hb (L.obj h) C ⟨-1,-1,d.ak,0,true,d.data⟩ hd;have M1:=L.call h a2;obtain⟨K2,u2,M2,w2⟩:=M1.st (by rw[a3.base];exact hb) k0 (i:=3) (v:=I 6) (by simp[bU.av]) dV;have t2:=a3.trans w2;obtain⟨K3,u3,M3,w3⟩:=M2.st (by rw[t2.base];exact hb) aj (i:=4) (v:=I 2) (by simp[bU.av]) dV;have t3:=t2.trans w3;obtain⟨K4,u4,M4,w4⟩:=M3.st (by rw[t3.base];exact hb) aj (i:=5) (v:=I bH) (by simp[bU.av]) dV;have t4:=t3.trans w4;obtain⟨K5,u5,M5,w5⟩:=M4.st (by rw[t4.base];exact hb) aj (i:=6) (v:=zN) (by simp[bU.av]) qx;have t5:=t4.trans w5;have f1:=M5.lda aj (i:=0) (n:=9) (ys:=(bU.mk d.aU d.ak d.id 6 2 bH [] d.next d.told).av) (by simp only[bU.av,Em];rfl) rfl (by decide);have hne:r'≠r:=hrr.symm;obtain⟨K7,u7,v7,M7,w7⟩:=M5.whole (by rw[t5.base];exact hb) (r:=r') (xs:=zD9) (by rw[aB hne,aB hne,aB hne,aB hne];exact k1) (n:=9) (vs:=(bU.mk d.aU d.ak d.id 6 2 bH [] d.next d.told).av) rfl rfl (by decide) (bG _);refine⟨K7,?_,M7.out,t5.trans w7⟩;simp only[hn]at u7 v7;simp only[Int.reduceNeg,xq_,Bf,d7,hn,zae,d1,d6,e1,a1,u2,u3,u4,u5,f1,u7,v7]
def alx(G:Good b H g)(hb:H.base<=b)(h:g q=some (dD ca))(C:COk ca)(d:bU)(bH:Int)(hd:d.data.length<1000000000):
  ∃H',cl 219 [.agg d.av,I bH,.ref q 0 0] H=some (.agg (dw d bH ca).2.av,H')/\Good b H' (upd g q (dD (dw d bH ca).1))/\Step b H H':=by
 refine kN rfl rfl (aqe _ _ _ _ _) ?_;have L1:=(Loc.of G).newL (ty:=73) (xs:=d.av) (r:=H.next) (bG d) rfl;have L2:=L1.newL (ty:=73) (xs:=zD9) (r:=H.next+1) rfl (by rw[eF]);have d1:=L2.ld (r:=H.next) (i:=1) (v:=I d.ak) (by(repeat rw[aB (by omega)]);first|exact k0|exact k1|exact k2|rw[aj]) rfl;have ef:=nI L2.good (L2.obj h) C.len C.dat d.ak;have L3:=L2.newL (ty:=100) (xs:=zE6) (r:=H.next+1+1) rfl (by rw[eF,eF]);have s3:Step b H _:=((Step.new (.blk 0 73 d.av) G.1).trans (Step.new (.blk 0 73 zD9) L1.good.1)).trans (Step.new (.blk 0 100 zE6) L2.good.1);obtain⟨K1,z1,z2,M,z4⟩:=L3.whole (by rw[s3.base];exact hb) (r:=H.next+1+1) (xs:=zE6) (by(repeat rw[aB (by omega)]);first|exact k0|exact k1|exact k2|rw[aj]) (n:=6) (vs:=((ca.find d.ak).getD .zero).av) rfl rfl (by decide) (jO _);have t1:=s3.trans z4;have d7:=M.ld (r:=H.next) (i:=7) (v:=I d.next) (by(repeat rw[aB (by omega)]);first|exact k0|exact k1|exact k2|rw[aj]) rfl;simp only[jG]at ef;cases hfd:ca.find d.ak with
 |none=>
  have hm:dw d bH ca=vS d bH ca:=by simp only[dw,hfd];rfl
  rw[hm];rw[hfd]at ef z1;simp only[zaK]at ef;obtain⟨K2,u1,u2,u3⟩:=Dt M (by rw[t1.base];exact hb) h C d bH hd (r:=H.next) (r':=H.next+1) (by omega) (by(repeat rw[aB (by omega)]);first|exact k0|exact k1|exact k2|rw[aj]) (by(repeat rw[aB (by omega)]);first|exact k0|exact k1|exact k2|rw[aj]);refine⟨K2,?_,u2,t1.trans u3⟩;by_cases hn:d.next=bH
  ·rw[hn]at d7;simp only[Nat.reduceLT,xq_,QX,aC (bG d),d1,ef,z1,d7];exact u1
  ·simp only[Nat.reduceLT,xq_,QX,aC (bG d),d1,ef,z1,d7,hn];exact u1
 |some own=>
  rw[hfd]at ef z1 M;simp only[zaO,zat]at ef z1 M;by_cases hn:d.next=bH
  ·have hm:dw d bH ca=vS { d with next:=own.fwd } bH ca:=by simp only[dw,hfd];rw[if_pos hn];rfl
   rw[hm];have e0:=M.ld (r:=H.next+1+1) (i:=0) (v:=I own.fwd) (by(repeat rw[aB (by omega)]);first|exact k0|exact k1|exact k2|rw[aj]) rfl;obtain⟨K2,y1,M2,y3⟩:=M.st (by rw[t1.base];exact hb) (r:=H.next) (xs:=d.av) (by(repeat rw[aB (by omega)]);first|exact k0|exact k1|exact k2|rw[aj]) (i:=7) (v:=I own.fwd) (by simp[bU.av]) dV;have t2:=t1.trans y3;obtain⟨K3,u1,u2,u3⟩:=Dt M2 (by rw[t2.base];exact hb) h C { d with next:=own.fwd } bH hd (r:=H.next) (r':=H.next+1) (by omega) (by rw[aj];rfl) (by(repeat rw[aB (by omega)]);first|exact k0|exact k1|exact k2|rw[aj]);refine⟨K3,?_,u2,t2.trans u3⟩;rw[hn]at d7;simp only[Nat.reduceLT,xq_,QX,aC (bG d),d1,ef,z1,d7,e0,y1];exact u1
  ·have hm:dw d bH ca=vS d bH ca:=by simp only[dw,hfd];rw[if_neg hn];rfl
   rw[hm];obtain⟨K2,u1,u2,u3⟩:=Dt M (by rw[t1.base];exact hb) h C d bH hd (r:=H.next) (r':=H.next+1) (by omega) (by(repeat rw[aB (by omega)]);first|exact k0|exact k1|exact k2|rw[aj]) (by(repeat rw[aB (by omega)]);first|exact k0|exact k1|exact k2|rw[aj]);refine⟨K2,?_,u2,t1.trans u3⟩;simp only[Nat.reduceLT,xq_,QX,aC (bG d),d1,ef,z1,d7,hn];exact u1
def BF {K:ah}{ls:Lcl}(L:Loc b K g ls)(hb:K.base<=b)(h:g q=some (dD ca))(C:COk ca)(d:bU)(bH:Int)(hd:d.data.length<1000000000){r r':Nat}(k:ls r=some d.av)(k1:ls r'=some zD9):
  ∃e H',lda 9 (.ref r 0 0) K=some (.agg d.av,K)/\cl 219 [.agg d.av,I bH,.ref q 0 0] K=some (.agg (dw d bH ca).2.av,e)/\st 9 (.ref r' 0 0) (.agg (dw d bH ca).2.av) e=some (aY,H')/\
   lda 9 (.ref r' 0 0) H'=some (.agg (dw d bH ca).2.av,H')/\Good b H' (upd g q (dD (dw d bH ca).1))/\Step b K H':=by
 obtain⟨e,m,o,j⟩:=alx L.good hb (L.obj h) C d bH hd;have M:=L.call h o;obtain⟨p,u,v,w,y⟩:=M.whole (by rw[j.base];exact hb) k1 (n:=9) (vs:=(dw d bH ca).2.av) rfl rfl J (bG _);exact⟨e,p,L.lda k (i:=0) (n:=9) (ys:=d.av) rfl rfl J,m,u,v,w.out,j.trans y⟩
def afS(G:Good b H g)(hb:H.base<=b)(h:g q=some (dD ca))(C:COk ca)(d:bU)(bH:Int)(p:Pkt)(hd:d.data.length<1000000000)(hp:p.data.length<1000000000):
  ∃H',cl 185 [.agg d.av,I bH,.ref q 0 0,.agg p.av] H=some (uK (dZ d bH ca p),H')/\Good b H' (upd g q (dD (dZ d bH ca p).1))/\Step b H H':=by
 refine kN rfl rfl (apI _ _ _ _ _ _) ?_;obtain⟨ls,L,k0,k1,k2,s⟩:=vP G d p;have d0:=L.ld k0 (i:=0) (v:=I d.aU) rfl;have d1:=L.ld k0 (i:=1) (v:=I d.ak) rfl;have dA:=L.lda k0 (i:=0) (n:=9) (ys:=d.av) rfl rfl (by decide);have pA:=L.lda k1 (i:=0) (n:=9) (ys:=p.av) rfl rfl (by decide);have hf:=λH=>Vg H d p;have ez:bd 73 []=some (.agg zD9):=by simp only[xq_,aaA,jg,dY]
 have hbK:(((H.new (.blk 0 73 d.av)).new (.blk 0 81 p.av)).new (.blk 0 73 zD9)).base<=b:=by rw[s.base];exact hb
 obtain⟨Kz,z1,z2,z3,z4⟩:=L.whole hbK k2 (n:=9) (vs:=zD9) rfl rfl (by decide) rfl;have zu:Good b Kz (upd g q (dD ca)):=by rw[fO h];exact z3.out
 by_cases h1:d.aU≠2∨d.fits p=false
 ·have hm:dZ d bH ca p=(ca,.zero,false):=by simp only[dZ];rw[if_pos h1];rfl
  rw[hm];refine⟨Kz,?_,zu,s.trans z4⟩;by_cases hk:d.aU=2
  ·have hff:d.fits p=false:=h1.resolve_left (λh=>h hk);rw[hk]at d0;simp only[Nat.reduceLT,xq_,AY,aC (bG d),aC (aW p),d0,dA,pA,hf,hff,zae,zai,ez,z1,z2,uK,lU]
  ·simp only[Nat.reduceLT,xq_,AY,aC (bG d),aC (aW p),d0,hk,zai,ez,z1,z2,uK,lU]
 ·have hk:d.aU=2:=Classical.byContradiction λh=>h1 (.inl h);have hff:d.fits p=true:=by cases hx:d.fits p <;> simp_all
  rw[hk]at d0;have ef:=nI L.good (L.obj h) C.len C.dat d.ak;simp only[jG]at ef;have LE:=L.newL (ty:=100) (xs:=zE6) (r:=H.next+1+1+1) rfl (by rw[eF,eF,eF]);have sE:Step b H _:=s.trans (Step.new (.blk 0 100 zE6) L.good.1);obtain⟨KE,x1,x2,M,x4⟩:=LE.whole (by rw[sE.base];exact hb) (r:=H.next+1+1+1) (xs:=zE6) (by(repeat rw[aB (by omega)]);first|exact k0|exact k1|exact k2|rw[aj]) (n:=6) (vs:=((ca.find d.ak).getD .zero).av) rfl rfl (by decide) (jO _);have t1:=sE.trans x4;have d3:=M.ld (r:=H.next) (xs:=d.av) (i:=3) (v:=I d.step) (by(repeat rw[aB (by omega)]);first|exact k0|exact k1|exact k2|rw[aj]) rfl;have hbE:KE.base<=b:=by rw[t1.base];exact hb
  have e5:=M.ld (r:=H.next+1+1+1) (i:=5) (v:=dat ((ca.find d.ak).getD .zero).data) (by(repeat rw[aB (by omega)]);first|exact k0|exact k1|exact k2|rw[aj]) rfl;have hown:((ca.find d.ak).getD .zero).data.length<1000000000:=by
   cases hx:ca.find d.ak with
   |none=>exact(by decide:([]:List Int).length<1000000000)
   |some own=>exact C.dat own (zbs hx)
  have e2:=λH=>ku H p.data hp;by_cases s1:d.step=1
  ·rw[s1]at d3;have p6:=M.ld (r:=H.next+1) (xs:=p.av) (i:=6) (v:=I p.state) (by(repeat rw[aB (by omega)]);first|exact k0|exact k1|exact k2|rw[aj]) rfl;have p5:=M.ld (r:=H.next+1) (xs:=p.av) (i:=5) (v:=I p.ptr) (by(repeat rw[aB (by omega)]);first|exact k0|exact k1|exact k2|rw[aj]) rfl;have p8:=M.ld (r:=H.next+1) (xs:=p.av) (i:=8) (v:=dat p.data) (by(repeat rw[aB (by omega)]);first|exact k0|exact k1|exact k2|rw[aj]) rfl;obtain⟨K2,u2,M2,w2⟩:=M.st hbE (r:=H.next) (xs:=d.av) (by(repeat rw[aB (by omega)]);first|exact k0|exact k1|exact k2|rw[aj]) (i:=4) (v:=I p.state) (by simp[bU.av]) dV;have t2:=t1.trans w2;obtain⟨K3,u3,M3,w3⟩:=M2.st (by rw[t2.base];exact hb) (r:=H.next) aj (i:=5) (v:=I p.ptr) (by simp[bU.av]) dV;have t3:=t2.trans w3;obtain⟨K4,u4,M4,w4⟩:=M3.st (by rw[t3.base];exact hb) (r:=H.next) aj (i:=8) (v:=I p.ptr) (by simp[bU.av]) dV;have t4:=t3.trans w4;obtain⟨K5,u5,M5,w5⟩:=M4.st (by rw[t4.base];exact hb) (r:=H.next) aj (i:=6) (v:=dat p.data) (by simp[bU.av]) sJ;have t5:=t4.trans w5;have c1:∀{β:Type} (k:Option β),ck (bQ (.ref (H.next+1) 0 5)) KE K2 k=k:=λk=>wC (oQ u2 (by omega));have c2:∀{β:Type} (k:Option β),ck (bQ (.ref (H.next+1) 0 5)) K2 K3 k=k:=λk=>wC (oQ u3 (by omega));cases hx:ca.find d.ak with
   |none=>
    have hm:dZ d bH ca p=((dw { d with state:=p.state,head:=p.ptr,told:=p.ptr,data:=p.data,next:=p.ptr } bH ca).1,(dw { d with state:=p.state,head:=p.ptr,told:=p.ptr,data:=p.data,next:=p.ptr } bH ca).2,true):=by
     simp only[dZ,hx];rw[if_neg h1,if_pos s1]
    rw[hm];rw[hx]at ef x1;simp only[zaK]at ef;have n5:=M5.ld (r:=H.next) aj (i:=5) (v:=I p.ptr) rfl;obtain⟨K6,u6,M6,w6⟩:=M5.st (by rw[t5.base];exact hb) (r:=H.next) aj (i:=7) (v:=I p.ptr) (by simp[bU.av]) dV;have t6:=t5.trans w6;obtain⟨K7,K8,v1,v2,v3,v4,v5,v6⟩:=BF M6 (by rw[t6.base];exact hb) h C { d with state:=p.state,head:=p.ptr,told:=p.ptr,data:=p.data,next:=p.ptr } bH hp (r:=H.next) (r':=H.next+1+1) (by rw[aj];rfl) (by(repeat rw[aB (by omega)]);first|exact k0|exact k1|exact k2|rw[aj]);refine⟨K8,?_,v5,t6.trans v6⟩;simp only[Nat.reduceLT,Int.reduceEq,xq_,AY,aC (bG d),aC (aW p),d0,dA,pA,hf,hff,zae,d1,ef,x1,d3,p6,p5,p8,e2,u2,u3,u4,u5,c1,c2,FH,n5,u6,v1,v2,v3,v4,uK]
   |some own=>
    have hm:dZ d bH ca p=((dw { d with state:=p.state,head:=p.ptr,told:=p.ptr,data:=own.data,next:=p.ptr } bH ca).1,(dw { d with state:=p.state,head:=p.ptr,told:=p.ptr,data:=own.data,next:=p.ptr } bH ca).2,true):=by
     simp only[dZ,hx];rw[if_neg h1,if_pos s1]
    rw[hm];rw[hx]at ef x1 e5;simp only[zaO,zat]at ef x1 e5;have e5':=M5.ld (r:=H.next+1+1+1) (i:=5) (v:=dat ((ca.find d.ak).getD .zero).data) (by(repeat rw[aB (by omega)]);first|exact k0|exact k1|exact k2|rw[aj]) rfl;rw[hx]at e5';simp only[zat]at e5';obtain⟨K5',u5',M5',w5'⟩:=M5.st (by rw[t5.base];exact hb) (r:=H.next) aj (i:=6) (v:=dat own.data) (by simp[bU.av]) sJ;have t5':=t5.trans w5';have n5:=M5'.ld (r:=H.next) aj (i:=5) (v:=I p.ptr) rfl;obtain⟨K6,u6,M6,w6⟩:=M5'.st (by rw[t5'.base];exact hb) (r:=H.next) aj (i:=7) (v:=I p.ptr) (by simp[bU.av]) dV;have t6:=t5'.trans w6;obtain⟨K7,K8,v1,v2,v3,v4,v5,v6⟩:=BF M6 (by rw[t6.base];exact hb) h C { d with state:=p.state,head:=p.ptr,told:=p.ptr,data:=own.data,next:=p.ptr } bH (C.dat own (zbs hx)) (r:=H.next) (r':=H.next+1+1) (by rw[aj];rfl) (by(repeat rw[aB (by omega)]);first|exact k0|exact k1|exact k2|rw[aj]);refine⟨K8,?_,v5,t6.trans v6⟩;simp only[Nat.reduceLT,Int.reduceEq,xq_,AY,aC (bG d),aC (aW p),d0,dA,pA,hf,hff,zae,d1,ef,x1,d3,p6,p5,p8,e2,u2,u3,u4,u5,c1,c2,e5',u5',FH,n5,u6,v1,v2,v3,v4,uK]
  ·by_cases s3:d.step=3
   ·rw[s3]at d3;cases hx:ca.find d.ak with
    |none=>
     have hm:dZ d bH ca p=((dw { d with data:=p.data,next:=p.ptr } bH ca).1,(dw { d with data:=p.data,next:=p.ptr } bH ca).2,true):=by
      simp only[dZ,hx];rw[if_neg h1,if_neg s1,if_pos s3]
     rw[hm];rw[hx]at ef x1;simp only[zaK]at ef;have p8:=M.ld (r:=H.next+1) (xs:=p.av) (i:=8) (v:=dat p.data) (by(repeat rw[aB (by omega)]);first|exact k0|exact k1|exact k2|rw[aj]) rfl;obtain⟨K5,u5,M5,w5⟩:=M.st hbE (r:=H.next) (xs:=d.av) (by(repeat rw[aB (by omega)]);first|exact k0|exact k1|exact k2|rw[aj]) (i:=6) (v:=dat p.data) (by simp[bU.av]) sJ;have t5:=t1.trans w5;have p5:=M5.ld (r:=H.next+1) (xs:=p.av) (i:=5) (v:=I p.ptr) (by(repeat rw[aB (by omega)]);first|exact k0|exact k1|exact k2|rw[aj]) rfl;obtain⟨K6,u6,M6,w6⟩:=M5.st (by rw[t5.base];exact hb) (r:=H.next) aj (i:=7) (v:=I p.ptr) (by simp[bU.av]) dV;have t6:=t5.trans w6;obtain⟨K7,K8,v1,v2,v3,v4,v5,v6⟩:=BF M6 (by rw[t6.base];exact hb) h C { d with data:=p.data,next:=p.ptr } bH hp (r:=H.next) (r':=H.next+1+1) (by rw[aj];rfl) (by(repeat rw[aB (by omega)]);first|exact k0|exact k1|exact k2|rw[aj]);refine⟨K8,?_,v5,t6.trans v6⟩;simp only[Nat.reduceLT,Int.reduceEq,xq_,AY,aC (bG d),aC (aW p),d0,dA,pA,hf,hff,zae,zai,d1,ef,x1,d3,p5,p8,e2,u5,FI,u6,v1,v2,v3,v4,uK]
    |some own=>
     have hm:dZ d bH ca p=((dw { d with data:=d.data,next:=p.ptr } bH ca).1,(dw { d with data:=d.data,next:=p.ptr } bH ca).2,true):=by
      simp only[dZ,hx];rw[if_neg h1,if_neg s1,if_pos s3]
     rw[hm];rw[hx]at ef x1;simp only[zaO,zat]at ef x1;have p5:=M.ld (r:=H.next+1) (xs:=p.av) (i:=5) (v:=I p.ptr) (by(repeat rw[aB (by omega)]);first|exact k0|exact k1|exact k2|rw[aj]) rfl;obtain⟨K6,u6,M6,w6⟩:=M.st hbE (r:=H.next) (xs:=d.av) (by(repeat rw[aB (by omega)]);first|exact k0|exact k1|exact k2|rw[aj]) (i:=7) (v:=I p.ptr) (by simp[bU.av]) dV;have t6:=t1.trans w6;obtain⟨K7,K8,v1,v2,v3,v4,v5,v6⟩:=BF M6 (by rw[t6.base];exact hb) h C { d with data:=d.data,next:=p.ptr } bH hd (r:=H.next) (r':=H.next+1+1) (by rw[aj];rfl) (by(repeat rw[aB (by omega)]);first|exact k0|exact k1|exact k2|rw[aj]);refine⟨K8,?_,v5,t6.trans v6⟩;simp only[Nat.reduceLT,Int.reduceEq,xq_,AY,aC (bG d),aC (aW p),d0,dA,pA,hf,hff,zae,d1,ef,x1,d3,p5,FI,u6,v1,v2,v3,v4,uK]
   ·by_cases s6:d.step=6
    ·have hm:dZ d bH ca p=(ca,{ d with step:=0 },true):=by simp only[dZ];rw[if_neg h1,if_neg s1,if_neg s3,if_pos s6]
     rw[hm];obtain⟨K1,a1,M1,a3⟩:=M.st hbE (r:=H.next) (xs:=d.av) (by(repeat rw[aB (by omega)]);first|exact k0|exact k1|exact k2|rw[aj]) (i:=3) (v:=I 0) (by simp[bU.av]) dV;have dB:=M1.lda aj (i:=0) (n:=9) (ys:=({ d with step:=0 }:bU).av) rfl rfl (by decide);obtain⟨K2,u1,u2,u3,u4⟩:=M1.whole (by rw[a3.base];exact hbE) (r:=H.next+1+1) (xs:=zD9) (by(repeat rw[aB (by omega)]);first|exact k0|exact k1|exact k2|rw[aj]) (n:=9) (vs:=({ d with step:=0 }:bU).av) rfl rfl (by decide) (bG _);refine⟨K2,?_,by rw[fO h];exact u3.out,(t1.trans a3).trans u4⟩;rw[s6]at d3;simp only[Nat.reduceLT,Int.reduceEq,xq_,AY,aC (bG d),aC (aW p),d0,dA,pA,hf,hff,zae,d1,ef,x1,d3,a1,dB,u1,u2,uK]
    ·have hm:dZ d bH ca p=(ca,.zero,false):=by simp only[dZ];rw[if_neg h1,if_neg s1,if_neg s3,if_neg s6];rfl
     rw[hm];obtain⟨K2,u1,u2,u3,u4⟩:=M.whole hbE (r:=H.next+1+1) (xs:=zD9) (by(repeat rw[aB (by omega)]);first|exact k0|exact k1|exact k2|rw[aj]) (n:=9) (vs:=zD9) rfl rfl (by decide) rfl;refine⟨K2,?_,by rw[fO h];exact u3.out,t1.trans u4⟩;simp only[Nat.reduceLT,xq_,AY,aC (bG d),aC (aW p),d0,dA,pA,hf,hff,zae,d1,ef,x1,d3,s1,s3,s6,ez,u1,u2,uK,lU]
end
section
variable {b:Nat}{H:ah}{g:bF}{q:Nat}{ca:Cache}
def Loc.ext {K K':ah}{ls:Lcl}(L:Loc b K g ls)(M:Made K K' nP):Loc b K' g ls:=⟨L.good.ext M.next M.same,L.free⟩
def arb(G:Good b H g)(hb:H.base<=b)(h:g q=some (dD ca))(C:COk ca)(d:bU)(head:Int):
  ∃H',cl 221 [.agg d.av,.ref q 0 0,I head] H=some (.agg (gW d ca head).2.1.av,H')/\Good b H' (upd g q (dD (gW d ca head).1))/\Step b H H':=by
 refine kN rfl rfl (aqh _ _ _ _ _) ?_;have L1:=(Loc.of G).newL (ty:=73) (xs:=d.av) (r:=H.next) (bG d) rfl;have L2:=L1.newL (ty:=73) (xs:=zD9) (r:=H.next+1) rfl (by rw[eF]);have s2:Step b H _:=(Step.new (.blk 0 73 d.av) G.1).trans (Step.new (.blk 0 73 zD9) L1.good.1);have d1:=L2.ld (r:=H.next) (i:=1) (v:=I d.ak) (by(repeat rw[aB (by omega)]);rw[aj]) rfl;obtain⟨K1,a1,a2,a3⟩:=Je L2.good (by rw[s2.base];exact hb) (L2.obj h) C.len C.dat d.ak;have M1:=L2.call h a2;have t1:=s2.trans a3;obtain⟨K2,u2,M2,w2⟩:=M1.st (by rw[t1.base];exact hb) (r:=H.next) (xs:=d.av) (by(repeat rw[aB (by omega)]);rw[aj]) (i:=3) (v:=I 6) (by simp[bU.av]) dV;have t2:=t1.trans w2;obtain⟨K3,u3,M3,w3⟩:=M2.st (by rw[t2.base];exact hb) (r:=H.next) aj (i:=4) (v:=I 1) (by simp[bU.av]) dV;have t3:=t2.trans w3;obtain⟨K4,u4,M4,w4⟩:=M3.st (by rw[t3.base];exact hb) (r:=H.next) aj (i:=5) (v:=I head) (by simp[bU.av]) dV;have t4:=t3.trans w4;obtain⟨K5,u5,M5,w5⟩:=M4.st (by rw[t4.base];exact hb) (r:=H.next) aj (i:=6) (v:=zN) (by simp[bU.av]) qx;have t5:=t4.trans w5;have f1:=M5.lda (r:=H.next) aj (i:=0) (n:=9) (ys:=(gW d ca head).2.1.av) (by simp only[gW,bU.av,Em];rfl) rfl (by decide);obtain⟨K7,u7,v7,M7,w7⟩:=M5.whole (by rw[t5.base];exact hb) (r:=H.next+1) (xs:=zD9) (by(repeat rw[aB (by omega)]);rw[aj]) (n:=9) (vs:=(gW d ca head).2.1.av) rfl rfl (by decide) (bG _);refine⟨K7,?_,M7.out,t5.trans w7⟩;simp only[Nat.reduceLT,xq_,ai7,aC (bG d),d1,a1,u2,u3,u4,u5,f1,u7,v7]
abbrev lnk(f bk:Int):List AV:=[I f,I bk]
def ac4(H:ah)(f bk:Int):∃H',cl 238 [.agg (lnk f bk)] H=some (B (decide (bk=-1)),H')/\(H.base<=H.next->Made H H' nP):=by
 refine⟨H.new (.blk 0 98 (lnk f bk)),bn rfl rfl (aqx _ _ _ ?_),λhb=>(Made.refl hb).new _⟩;simp only[Nat.reduceLT,Int.reduceNeg,xq_,hq_,ajf,aC]
def aly(H:ah)(f bk:Int):∃H',cl 243 [.agg (lnk f bk)] H=some (B (decide (f=-1)),H')/\(H.base<=H.next->Made H H' nP):=by
 refine⟨H.new (.blk 0 98 (lnk f bk)),bn rfl rfl (aqD _ _ _ ?_),λhb=>(Made.refl hb).new _⟩;simp only[Nat.reduceLT,Int.reduceNeg,xq_,hq_,ajh,aC]
def alz(H:ah)(hb0:H.base<=H.next)(f bk:Int):∃H',cl 237 [.agg (lnk f bk)] H=some (B (decide (bk=-1/\f=-1)),H')/\Made H H' nP:=by
 let H1:=H.new (.blk 0 98 (lnk f bk));have g1:H1.get H.next=.blk 0 98 (lnk f bk):=aP rfl
 have l1:lda 2 (.ref H.next 0 0) H1=some (.agg (lnk f bk),H1):=(iP (off:=0) (n:=2) g1 (zac 2)).trans rfl;obtain⟨H2,e1,M1⟩:=ac4 H1 f bk;by_cases h:bk=-1
 ·have hd:decide (bk=-1)=true:=decide_eq_true h;rw[hd]at e1;have hb:H1.base<=H1.next:=by simp only[H1,jh,eF];omega
  have M:=M1 hb;have l2:lda 2 (.ref H.next 0 0) H2=some (.agg (lnk f bk),H2):=(iP (g:=0) (ty:=98) (off:=0) (n:=2) (xs:=lnk f bk) (by rw[M.same _ (by simp only[H1,eF];omega)];exact g1) (zac 2)).trans rfl;obtain⟨H3,e2,M2⟩:=aly H2 f bk;have M3:=M2 (by rw[M.base];exact zav hb M.next);have M4:Made H1 H3 nP:=⟨zav M.next M3.next,M3.base.trans M.base,λr hr=>by rw[M3.same r (zax hr M.next),M.same r hr],Good.empty' (zav M.next M3.next)⟩
  refine⟨H3,bn rfl rfl (aje _ _ _ ?_),M4.wz⟩;simp only[H1]at l1 e1;have hda:decide (bk=-1/\f=-1)=decide (f=-1):=by simp[h]
  rw[hda];simp only[Nat.reduceLT,Int.reduceNeg,xq_,abW,aC (show(lnk f bk).all AV.aS=true from rfl),l1,e1,l2,e2]
 ·have hd:decide (bk=-1)=false:=decide_eq_false h;rw[hd]at e1;have hda:decide (bk=-1/\f=-1)=false:=by simp[h]
  refine⟨H2,bn rfl rfl (aje _ _ _ ?_),(M1 (by simp only[H1,jh,eF];omega)).wz⟩;simp only[H1]at l1 e1;rw[hda];simp only[Nat.reduceLT,xq_,abW,aC (show(lnk f bk).all AV.aS=true from rfl),l1,e1]
end
section
variable {b:Nat}{H:ah}{g:bF}{q:Nat}{ca:Cache}
def lJ(d:bU)(c:Cache)(p:Pkt):Cache × bU:=
 let d:bU:={ d with state:=p.state,head:=p.ptr,told:=p.ptr,data:=[],step:=6 }
 match c.find d.ak with
 |none=>(c,d)
 |some e=>
  if e.back=-1/\e.fwd=-1 then(c.drop d.ak,{ d with state:=0,head:=-1,data:=if e.bP then e.data else [] })
  else if e.back=-1 then(c,{ d with head:=-1,next:=e.fwd,step:=5 })
  else(c,{ d with head:=e.back,next:=e.fwd,step:=4 })
def Y0(G:Good b H g)(hb:H.base<=b)(h:g q=some (dD ca))(C:COk ca)(d:bU)(p:Pkt):
  ∃H',cl 220 [.agg d.av,.ref q 0 0,.agg p.av] H=some (.agg (lJ d ca p).2.av,H')/\Good b H' (upd g q (dD (lJ d ca p).1))/\Step b H H':=by
 refine kN rfl rfl (aqg _ _ _ _ _) ?_;obtain⟨ls,L,k0,k1,k2,s⟩:=vP G d p;have hbK:(((H.new (.blk 0 73 d.av)).new (.blk 0 81 p.av)).new (.blk 0 73 zD9)).base<=b:=by rw[s.base];exact hb
 have p6:=L.ld k1 (i:=6) (v:=I p.state) rfl;have p5:=L.ld k1 (i:=5) (v:=I p.ptr) rfl;obtain⟨K2,u2,M2,w2⟩:=L.st hbK (r:=H.next) k0 (i:=4) (v:=I p.state) (by simp[bU.av]) dV;have t2:=s.trans w2;obtain⟨K3,u3,M3,w3⟩:=M2.st (by rw[t2.base];exact hb) (r:=H.next) aj (i:=5) (v:=I p.ptr) (by simp[bU.av]) dV;have t3:=t2.trans w3;obtain⟨K4,u4,M4,w4⟩:=M3.st (by rw[t3.base];exact hb) (r:=H.next) aj (i:=8) (v:=I p.ptr) (by simp[bU.av]) dV;have t4:=t3.trans w4;obtain⟨K5,u5,M5,w5⟩:=M4.st (by rw[t4.base];exact hb) (r:=H.next) aj (i:=6) (v:=zN) (by simp[bU.av]) qx;have t5:=t4.trans w5;have c1:∀{β:Type} (k:Option β),ck (bQ (.ref (H.next+1) 0 5)) (((H.new (.blk 0 73 d.av)).new (.blk 0 81 p.av)).new (.blk 0 73 zD9)) K2 k=k:=λk=>wC (oQ u2 (by omega));have c2:∀{β:Type} (k:Option β),ck (bQ (.ref (H.next+1) 0 5)) K2 K3 k=k:=λk=>wC (oQ u3 (by omega));obtain⟨K6,u6,M6,w6⟩:=M5.st (by rw[t5.base];exact hb) (r:=H.next) aj (i:=3) (v:=I 6) (by simp[bU.av]) dV;have t6:=t5.trans w6;let d2:bU:={ d with state:=p.state,head:=p.ptr,told:=p.ptr,data:=[],step:=6 }
 have e2:(((((d.av.set 4 (I p.state)).set 5 (I p.ptr)).set 8 (I p.ptr)).set 6 zN).set 3 (I 6))=d2.av:=by simp only[d2,bU.av,Em];rfl
 rw[e2]at M6;have k0':∀(l:Lcl) (x:List AV),iH l H.next x H.next=some x:=λ_ _=>aj
 have d1:=M6.ld (r:=H.next) aj (i:=1) (v:=I d.ak) rfl;have ef:=nI M6.good (M6.obj h) C.len C.dat d.ak;simp only[jG]at ef;have LE:=M6.newL (ty:=100) (xs:=zE6) (r:=K6.next) rfl rfl;have z2:iH (iH (iH (iH (iH ls H.next (d.av.set 4 (I p.state))) H.next ((d.av.set 4 (I p.state)).set 5 (I p.ptr))) H.next (((d.av.set 4 (I p.state)).set 5 (I p.ptr)).set 8 (I p.ptr))) H.next ((((d.av.set 4 (I p.state)).set 5 (I p.ptr)).set 8 (I p.ptr)).set 6 zN)) H.next d2.av (H.next+1+1)=some zD9:=by
  rw[aB (by omega),aB (by omega),aB (by omega),aB (by omega),aB (by omega)];exact k2
 have n6:H.next+1+1<K6.next:=M6.good.lt (pR (g:=g) z2)
 obtain⟨KE,x1,x2,ME,x4⟩:=LE.whole (by rw[jh,t6.base];exact hb) (r:=K6.next) aj (n:=6) (vs:=((ca.find d.ak).getD .zero).av) rfl rfl (by decide) (jO _);have tE:=(t6.trans (Step.new (.blk 0 100 zE6) M6.good.1)).trans x4;have hbE:KE.base<=b:=by rw[tE.base];exact hb
 generalize hls:iH (iH (iH (iH (iH (iH (iH ls H.next (d.av.set 4 (I p.state))) H.next ((d.av.set 4 (I p.state)).set 5 (I p.ptr))) H.next (((d.av.set 4 (I p.state)).set 5 (I p.ptr)).set 8 (I p.ptr))) H.next ((((d.av.set 4 (I p.state)).set 5 (I p.ptr)).set 8 (I p.ptr)).set 6 zN)) H.next d2.av) K6.next zE6) K6.next ((ca.find d.ak).getD .zero).av=lz at ME
 have y0:lz H.next=some d2.av:=by rw[<-hls,aB (by omega),aB (by omega),aj]
 have y2:lz (H.next+1+1)=some zD9:=by rw[<-hls,aB (by omega),aB (by omega)];exact z2
 have y3:lz K6.next=some ((ca.find d.ak).getD .zero).av:=by rw[<-hls,aj]
 have fin:∀{Kx:ah} {lx:Lcl} {gx:bF} (dx:bU),Loc b Kx gx lx->Kx.base<=b->lx H.next=some dx.av->lx (H.next+1+1)=some zD9->∃H',lda 9 (.ref H.next 0 0) Kx=some (.agg dx.av,Kx)/\st 9 (.ref (H.next+1+1) 0 0) (.agg dx.av) Kx=some (aY,H')/\lda 9 (.ref (H.next+1+1) 0 0) H'=some (.agg dx.av,H')/\Good b H' gx/\Step b Kx H':=λdx Lx hbx q0 q2=>by
  obtain⟨K',v1,v2,v3,v4⟩:=Lx.whole hbx q2 (n:=9) (vs:=dx.av) rfl rfl (by decide) (bG _);exact⟨K',Lx.lda q0 (i:=0) (n:=9) (ys:=dx.av) rfl rfl (by decide),v1,v2,v3.out,v4⟩
 cases hfd:ca.find d.ak with
 |none=>
  have hm:lJ d ca p=(ca,d2):=by simp only[lJ,hfd,d2]
  rw[hm];rw[hfd]at ef x1;simp only[zaK]at ef;obtain⟨H',f1,f2,f3,f4,f5⟩:=fin d2 ME hbE y0 y2;refine⟨H',?_,by rw[fO h];exact f4,tE.trans f5⟩;simp only[Nat.reduceLT,Int.reduceNeg,xq_,Ld,aC (bG d),aC (aW p),p6,p5,u2,u3,u4,u5,c1,c2,u6,d1,ef,x1,zai,f1,f2,f3]
 |some e=>
  rw[hfd]at ef x1 y3;simp only[zaO,zat]at ef x1 y3;have l2:=ME.lda y3 (i:=0) (n:=2) (ys:=lnk e.fwd e.back) rfl rfl (by decide);obtain⟨KO,o1,o2⟩:=alz KE (zav hbE ME.good.1) e.fwd e.back;have MO:=ME.ext o2;have hbO:KO.base<=b:=by rw[o2.base];exact hbE
  have tO:Step b H KO:=tE.trans ⟨o2.base,o2.next,λr hr=>o2.same r (zax hr ME.good.1)⟩;by_cases h1:e.back=-1/\e.fwd=-1
  ·have dl:=MO.ld y0 (i:=1) (v:=I d.ak) rfl;obtain⟨K7,a1,a2,a3⟩:=Je MO.good hbO (MO.obj h) C.len C.dat d.ak;have M7:=MO.call h a2;have t7:=tO.trans a3;obtain⟨K8,u8,M8,w8⟩:=M7.st (by rw[t7.base];exact hb) y0 (i:=4) (v:=I 0) (by simp[bU.av]) dV;have t8:=t7.trans w8;obtain⟨K9,u9,M9,w9⟩:=M8.st (by rw[t8.base];exact hb) (r:=H.next) aj (i:=5) (v:=I (-1)) (by simp[bU.av]) dV;have t9:=t8.trans w9;have y3':iH (iH lz H.next (d2.av.set 4 (I 0))) H.next ((d2.av.set 4 (I 0)).set 5 (I (-1))) K6.next=some e.av:=by rw[aB (by omega),aB (by omega)];exact y3
   have y2':iH (iH lz H.next (d2.av.set 4 (I 0))) H.next ((d2.av.set 4 (I 0)).set 5 (I (-1))) (H.next+1+1)=some zD9:=by rw[aB (by omega),aB (by omega)];exact y2
   have ed:=M9.ld y3' (i:=4) (v:=B e.bP) rfl;rw[decide_eq_true h1]at o1;cases hdy:e.bP with
   |false=>
    have hm:lJ d ca p=(ca.drop d.ak,{ d2 with state:=0,head:=-1,data:=[] }):=by
     simp only[lJ,hfd,d2];rw[if_pos h1,hdy];rfl
    rw[hm];rw[hdy]at ed;obtain⟨H',f1,f2,f3,f4,f5⟩:=fin { d2 with state:=0,head:=-1,data:=[] } M9 (by rw[t9.base];exact hb) (by rw[aj];rfl) y2';refine⟨H',?_,f4,t9.trans f5⟩;simp only[Nat.reduceLT,Int.reduceNeg,xq_,Ld,rQ,aC (bG d),aC (aW p),p6,p5,u2,u3,u4,u5,c1,c2,u6,d1,ef,x1,zae,l2,o1,dl,a1,u8,u9,ed,f1,f2,f3]
   |true=>
    have hm:lJ d ca p=(ca.drop d.ak,{ d2 with state:=0,head:=-1,data:=e.data }):=by
     simp only[lJ,hfd,d2];rw[if_pos h1,hdy];rfl
    rw[hm];rw[hdy]at ed;have ex:=M9.ld y3' (i:=5) (v:=dat e.data) rfl;obtain⟨K10,u10,M10,w10⟩:=M9.st (by rw[t9.base];exact hb) (r:=H.next) aj (i:=6) (v:=dat e.data) (by simp[bU.av]) sJ;have t10:=t9.trans w10;obtain⟨H',f1,f2,f3,f4,f5⟩:=fin { d2 with state:=0,head:=-1,data:=e.data } M10 (by rw[t10.base];exact hb) (by rw[aj];rfl) (by rw[aB (by omega)];exact y2');refine⟨H',?_,f4,t10.trans f5⟩;simp only[Nat.reduceLT,Int.reduceNeg,xq_,Ld,rQ,aC (bG d),aC (aW p),p6,p5,u2,u3,u4,u5,c1,c2,u6,d1,ef,x1,zae,l2,o1,dl,a1,u8,u9,ed,ex,u10,f1,f2,f3]
  ·have l2':=MO.lda y3 (i:=0) (n:=2) (ys:=lnk e.fwd e.back) rfl rfl (by decide);obtain⟨KH,q1,q2'⟩:=ac4 KO e.fwd e.back;have q2:=q2' (zav hbO MO.good.1);have MH:=MO.ext q2;have hbH:KH.base<=b:=by rw[q2.base];exact hbO
   have tH:Step b H KH:=tO.trans ⟨q2.base,q2.next,λr hr=>q2.same r (zax hr MO.good.1)⟩;rw[decide_eq_false h1]at o1;have g0:=MH.ld y3 (i:=0) (v:=I e.fwd) rfl;have g1:=MH.ld y3 (i:=1) (v:=I e.back) rfl;by_cases h2:e.back=-1
   ·have hm:lJ d ca p=(ca,{ d2 with head:=-1,next:=e.fwd,step:=5 }):=by
     simp only[lJ,hfd,d2];rw[if_neg h1,if_pos h2]
    rw[hm];rw[decide_eq_true h2]at q1;obtain⟨K8,u8,M8,w8⟩:=MH.st hbH y0 (i:=5) (v:=I (-1)) (by simp[bU.av]) dV;have t8:=tH.trans w8;obtain⟨K9,u9,M9,w9⟩:=M8.st (by rw[t8.base];exact hb) (r:=H.next) aj (i:=7) (v:=I e.fwd) (by simp[bU.av]) dV;have t9:=t8.trans w9;obtain⟨K10,u10,M10,w10⟩:=M9.st (by rw[t9.base];exact hb) (r:=H.next) aj (i:=3) (v:=I 5) (by simp[bU.av]) dV;have t10:=t9.trans w10;have c3:∀{β:Type} (k:Option β),ck (bQ (.ref K6.next 0 0)) KH K8 k=k:=λk=>wC (oQ u8 (by omega));obtain⟨H',f1,f2,f3,f4,f5⟩:=fin { d2 with head:=-1,next:=e.fwd,step:=5 } M10 (by rw[t10.base];exact hb) (by rw[aj];rfl) (by rw[aB (by omega),aB (by omega),aB (by omega)];exact y2);refine⟨H',?_,by rw[fO h];exact f4,t10.trans f5⟩;simp only[Nat.reduceLT,Int.reduceNeg,xq_,Ld,rQ,aC (bG d),aC (aW p),p6,p5,u2,u3,u4,u5,c1,c2,u6,d1,ef,x1,zae,l2,o1,l2',q1,g0,u8,u9,u10,c3,f1,f2,f3]
   ·have hm:lJ d ca p=(ca,{ d2 with head:=e.back,next:=e.fwd,step:=4 }):=by
     simp only[lJ,hfd,d2];rw[if_neg h1,if_neg h2]
    rw[hm];rw[decide_eq_false h2]at q1;obtain⟨K8,u8,M8,w8⟩:=MH.st hbH y0 (i:=5) (v:=I e.back) (by simp[bU.av]) dV;have t8:=tH.trans w8;obtain⟨K9,u9,M9,w9⟩:=M8.st (by rw[t8.base];exact hb) (r:=H.next) aj (i:=7) (v:=I e.fwd) (by simp[bU.av]) dV;have t9:=t8.trans w9;obtain⟨K10,u10,M10,w10⟩:=M9.st (by rw[t9.base];exact hb) (r:=H.next) aj (i:=3) (v:=I 4) (by simp[bU.av]) dV;have t10:=t9.trans w10;have c3:∀{β:Type} (k:Option β),ck (bQ (.ref K6.next 0 0)) KH K8 k=k:=λk=>wC (oQ u8 (by omega));obtain⟨H',f1,f2,f3,f4,f5⟩:=fin { d2 with head:=e.back,next:=e.fwd,step:=4 } M10 (by rw[t10.base];exact hb) (by rw[aj];rfl) (by rw[aB (by omega),aB (by omega),aB (by omega)];exact y2);refine⟨H',?_,by rw[fO h];exact f4,t10.trans f5⟩;simp only[Nat.reduceLT,Int.reduceNeg,xq_,Ld,rQ,aC (bG d),aC (aW p),p6,p5,u2,u3,u4,u5,c1,c2,u6,d1,ef,x1,zae,l2,o1,l2',q1,g0,g1,u8,u9,u10,c3,f1,f2,f3]
end
section
variable {b:Nat}{H:ah}{g:bF}{q:Nat}{ca:Cache}
def alA(G:Good b H g)(hb:H.base<=b)(h:g q=some (dD ca))(C:COk ca)(d:bU)(p:Pkt)(nd:Int):
  ∃H',cl 186 [.agg d.av,I nd,.ref q 0 0,.agg p.av] H=some (uK (eG d ca p),H')/\Good b H' (upd g q (dD (eG d ca p).1))/\Step b H H':=by
 refine kN rfl rfl (apJ _ _ _ _ _ _) ?_;obtain⟨ls,L,k0,k1,k2,s⟩:=vP G d p;have d0:=L.ld k0 (i:=0) (v:=I d.aU) rfl;have d3:=L.ld k0 (i:=3) (v:=I d.step) rfl;have dA:=L.lda k0 (i:=0) (n:=9) (ys:=d.av) rfl rfl (by decide);have pA:=L.lda k1 (i:=0) (n:=9) (ys:=p.av) rfl rfl (by decide);have hf:=λH=>Vg H d p;have ez:bd 73 []=some (.agg zD9):=by simp only[xq_,aaA,jg,dY]
 have hbK:(((H.new (.blk 0 73 d.av)).new (.blk 0 81 p.av)).new (.blk 0 73 zD9)).base<=b:=by rw[s.base];exact hb
 obtain⟨Kz,z1,z2,z3,z4⟩:=L.whole hbK k2 (n:=9) (vs:=zD9) rfl rfl (by decide) rfl;have zu:Good b Kz (upd g q (dD ca)):=by rw[fO h];exact z3.out
 have outs:∀head,∃K1 K2,cl 221 [.agg d.av,.ref q 0 0,I head] (((H.new (.blk 0 73 d.av)).new (.blk 0 81 p.av)).new (.blk 0 73 zD9))=some (.agg (gW d ca head).2.1.av,K1)/\
   st 9 (.ref (H.next+1+1) 0 0) (.agg (gW d ca head).2.1.av) K1=some (aY,K2)/\lda 9 (.ref (H.next+1+1) 0 0) K2=some (.agg (gW d ca head).2.1.av,K2)/\Good b K2 (upd g q (dD (gW d ca head).1))/\Step b H K2:=λhead=>by
  obtain⟨K1,a1,a2,a3⟩:=arb L.good hbK (L.obj h) C d head;have M:=L.call h a2;obtain⟨K2,u1,u2,u3,u4⟩:=M.whole (by rw[a3.base];exact hbK) k2 (n:=9) (vs:=(gW d ca head).2.1.av) rfl rfl (by decide) (bG _);exact⟨K1,K2,a1,u1,u2,u3.out,(s.trans a3).trans u4⟩
 have steps:∀k:Int,∃K1 K2,st 1 (.ref H.next 0 3) (I k) (((H.new (.blk 0 73 d.av)).new (.blk 0 81 p.av)).new (.blk 0 73 zD9))=some (aY,K1)/\lda 9 (.ref H.next 0 0) K1=some (.agg ({ d with step:=k }:bU).av,K1)/\
   st 9 (.ref (H.next+1+1) 0 0) (.agg ({ d with step:=k }:bU).av) K1=some (aY,K2)/\lda 9 (.ref (H.next+1+1) 0 0) K2=some (.agg ({ d with step:=k }:bU).av,K2)/\Good b K2 (upd g q (dD ca))/\Step b H K2:=λk=>by
  obtain⟨K1,a1,M,a3⟩:=L.st hbK k0 (i:=3) (v:=I k) (by simp[bU.av]) dV;have k2':iH ls H.next (d.av.set 3 (I k)) (H.next+1+1)=some zD9:=by rw[aB (by omega)];exact k2
  have dB:=M.lda aj (i:=0) (n:=9) (ys:=({ d with step:=k }:bU).av) rfl rfl (by decide);obtain⟨K2,u1,u2,u3,u4⟩:=M.whole (by rw[a3.base];exact hbK) k2' (n:=9) (vs:=({ d with step:=k }:bU).av) rfl rfl (by decide) (bG _);exact⟨K1,K2,a1,dB,u1,u2,by rw[fO h];exact u3.out,(s.trans a3).trans u4⟩
 have d7:=L.ld k0 (i:=7) (v:=I d.next) rfl;have d5:=L.ld k0 (i:=5) (v:=I d.head) rfl;have d8:=L.ld k0 (i:=8) (v:=I d.told) rfl;by_cases h1:d.aU≠3∨d.fits p=false
 ·have hm:eG d ca p=(ca,.zero,false):=by simp only[eG];rw[if_pos h1];rfl
  rw[hm];refine⟨Kz,?_,zu,s.trans z4⟩;by_cases hk:d.aU=3
  ·have hff:d.fits p=false:=h1.resolve_left (λh=>h hk);rw[hk]at d0;simp only[Nat.reduceLT,Int.reduceNeg,xq_,yY,aC (bG d),aC (aW p),d0,dA,pA,hf,hff,zae,zai,ez,z1,z2,uK,lU]
  ·simp only[Nat.reduceLT,Int.reduceNeg,xq_,yY,aC (bG d),aC (aW p),d0,hk,zai,ez,z1,z2,uK,lU]
 ·have hk:d.aU=3:=Classical.byContradiction λh=>h1 (.inl h);have hff:d.fits p=true:=by cases hx:d.fits p <;> simp_all
  rw[hk]at d0;by_cases s1:d.step=1
  ·have hm:eG d ca p=((lJ d ca p).1,(lJ d ca p).2,true):=by
    simp only[eG,lJ];rw[if_neg h1,if_pos s1];cases ca.find d.ak with
    |none=>rfl
    |some e=>
     simp only;split
     ·rfl
     ·split <;> rfl
   rw[hm];rw[s1]at d3;obtain⟨K1,a1,a2,a3⟩:=Y0 L.good hbK (L.obj h) C d p;have M:=L.call h a2;obtain⟨K2,u1,u2,u3,u4⟩:=M.whole (by rw[a3.base];exact hbK) k2 (n:=9) (vs:=(lJ d ca p).2.av) rfl rfl (by decide) (bG _);refine⟨K2,?_,u3.out,(s.trans a3).trans u4⟩;simp only[Nat.reduceLT,Int.reduceEq,Int.reduceNeg,xq_,yY,aC (bG d),aC (aW p),d0,dA,pA,hf,hff,zae,d3,a1,u1,u2,uK]
  ·by_cases s4:d.step=4
   ·rw[s4]at d3;by_cases hn:d.next=-1
    ·have hm:eG d ca p=gW d ca d.told:=by simp only[eG];rw[if_neg h1,if_neg s1,if_pos s4,if_pos hn]
     rw[hm];obtain⟨K1,K2,a1,u1,u2,u3,u4⟩:=outs d.told;refine⟨K2,?_,u3,u4⟩;have ht:(gW d ca d.told).2.2=true:=rfl;rw[hn]at d7;simp only[Nat.reduceLT,Int.reduceEq,Int.reduceNeg,xq_,yY,aC (bG d),aC (aW p),d0,dA,pA,hf,hff,zae,d3,d7,d8,a1,u1,u2,uK,ht]
    ·have hm:eG d ca p=(ca,{ d with step:=5 },true):=by simp only[eG];rw[if_neg h1,if_neg s1,if_pos s4,if_neg hn]
     rw[hm];obtain⟨K1,K2,a1,dB,u1,u2,u3,u4⟩:=steps 5;refine⟨K2,?_,u3,u4⟩;simp only[Nat.reduceLT,Int.reduceEq,Int.reduceNeg,xq_,yY,aC (bG d),aC (aW p),d0,dA,pA,hf,hff,zae,d3,d7,hn,a1,dB,u1,u2,uK]
   ·by_cases s5:d.step=5
    ·rw[s5]at d3;by_cases hn:d.head=-1
     ·have hm:eG d ca p=gW d ca d.next:=by simp only[eG];rw[if_neg h1,if_neg s1,if_neg s4,if_pos s5,if_pos hn]
      rw[hm];obtain⟨K1,K2,a1,u1,u2,u3,u4⟩:=outs d.next
      refine⟨K2,?_,u3,u4⟩;have ht:(gW d ca d.next).2.2=true:=rfl;rw[hn]at d5;simp only[Nat.reduceLT,Int.reduceEq,Int.reduceNeg,xq_,yY,aC (bG d),aC (aW p),d0,dA,pA,hf,hff,zae,d3,d5,d7,a1,u1,u2,uK,ht]
     ·have hm:eG d ca p=gW d ca d.told:=by simp only[eG];rw[if_neg h1,if_neg s1,if_neg s4,if_pos s5,if_neg hn]
      rw[hm];obtain⟨K1,K2,a1,u1,u2,u3,u4⟩:=outs d.told;refine⟨K2,?_,u3,u4⟩;have ht:(gW d ca d.told).2.2=true:=rfl;simp only[Nat.reduceLT,Int.reduceEq,Int.reduceNeg,xq_,yY,aC (bG d),aC (aW p),d0,dA,pA,hf,hff,zae,d3,d5,hn,d8,a1,u1,u2,uK,ht]
    ·by_cases s6:d.step=6
     ·have hm:eG d ca p=(ca,{ d with step:=0 },true):=by simp only[eG];rw[if_neg h1,if_neg s1,if_neg s4,if_neg s5,if_pos s6]
      rw[hm];obtain⟨K1,K2,a1,dB,u1,u2,u3,u4⟩:=steps 0;refine⟨K2,?_,u3,u4⟩;rw[s6]at d3;simp only[Nat.reduceLT,Int.reduceEq,Int.reduceNeg,xq_,yY,aC (bG d),aC (aW p),d0,dA,pA,hf,hff,zae,d3,a1,dB,u1,u2,uK]
     ·have hm:eG d ca p=(ca,.zero,false):=by simp only[eG];rw[if_neg h1,if_neg s1,if_neg s4,if_neg s5,if_neg s6];rfl
      rw[hm];refine⟨Kz,?_,zu,s.trans z4⟩;simp only[Nat.reduceLT,Int.reduceNeg,xq_,yY,aC (bG d),aC (aW p),d0,dA,pA,hf,hff,zae,d3,s1,s4,s5,s6,ez,z1,z2,uK,lU]
end
section
variable {b:Nat}{H:ah}{g:bF}{q:Nat}
def RI(G:Good b H g)(hb:H.base<=b){l:List Evn}(h:g q=some (mP l))(w:l.length<1000000)(e:Evn):
  ∃x j H1 d,ld (.ref q 0 0) H=some (x,H)/\app 184 4 32 x (.sl H.next 0 0 4 1 1 true) (H.new (.blk 0 184 e.av))=some (j,H1)/\st 1 (.ref q 0 0) j H1=some (aY,d)/\Good b d (upd g q (mP (l++[e])))/\Step b H d:=by
 obtain⟨x,k,c⟩:=G.seq h (i:=0) rfl;obtain⟨j,H1,d,o,p,u,v⟩:=(G.new (.blk 0 184 e.av)).append (e:=184) (by_:=32) (n:=l.length) (by rw[jh];exact hb) h (i:=0) rfl J (dF tZ l) (c.new _) (jX (ex:=true) (n:=1) (m:=4) (l:=e.av) rfl) (CJ e) (by unfold most;omega) (by unfold most;omega);refine⟨x,j,H1,d,k,o,p,?_,(Step.new _ G.1).trans v⟩;have:mP (l++[e])=(mP l).set 0 (.seq 4 (l.flatMap Evn.av++e.av)):=by simp[mP]
 rw[this];exact u
def Y1(G:Good b H g)(hb:H.base<=b){l:List Evn}(h:g q=some (mP l))(d:l.length<1000000)(bH idx:Int):
  ∃H',cl 147 [.ref q 0 0,I bH,I idx] H=some (.tup [],H')/\Good b H' (upd g q (mP (l++[⟨bH,idx,false,0⟩])))/\Step b H H':=by
 obtain⟨x,p,H1,e,a0,i,j,k,n⟩:=RI G hb h d ⟨bH,idx,false,0⟩;refine⟨e,bn rfl rfl (apf _ _ _ _ _ ?_),k,n⟩;have o:bd 184 [(0,I bH),(1,I idx)]=some (.agg (Evn.mk bH idx false 0).av):=by
  simp only[xq_,ag2,jg,fK,aaC,Evn.av];rfl
 simp only[xq_,ail,a0,o,Wp,zbk,Nat.reduceLeDiff,jP (m:=4) (z:=[zI,zI,zB,zI]) (v:=.agg (Evn.mk bH idx false 0).av) rfl rfl (CJ _),eH,i,j]
def afT(G:Good b H g)(hb:H.base<=b){l:List Evn}(h:g q=some (mP l))(d:l.length<1000000)(bH idx v:Int):
  ∃H',cl 188 [.ref q 0 0,I bH,I idx,I v] H=some (.tup [],H')/\Good b H' (upd g q (mP (l++[⟨bH,idx,true,v⟩])))/\Step b H H':=by
 obtain⟨x,p,H1,e,a0,i,j,k,n⟩:=RI G hb h d ⟨bH,idx,true,v⟩;refine⟨e,bn rfl rfl (apK _ _ _ _ _ _ ?_),k,n⟩;have o:bd 184 [(0,I bH),(1,I idx),(2,B true),(3,I v)]=some (.agg (Evn.mk bH idx true v).av):=by
  simp only[xq_,ag2,jg,fK,aaC,Evn.av];rfl
 simp only[xq_,aiQ,a0,o,Wp,zbk,Nat.reduceLeDiff,jP (m:=4) (z:=[zI,zI,zB,zI]) (v:=.agg (Evn.mk bH idx true v).av) rfl rfl (CJ _),eH,i,j]
end
section
variable {b:Nat}{H:ah}{g:bF}{q:Nat}
def ac5(G:Good b H g)(hb:H.base<=b){p:Proc}(h:g q=some (qU p))(m:p.ops.length<1000)(n:p.bT.length<1000)(hv:p.bT.length<=p.ops.length):
  ∃v H',cl 146 [.ref q 0 0] H=some (v,H')/\Good b H' (upd g q (qU p.Aq))/\Step b H H':=by
 have e:=G.load h (i:=2) (x:=B p.fU) rfl;have k:=Xu G h m n;cases d:p.fU with
 |true=>
  have hm:p.Aq=p:=by simp[Proc.Aq,d]
  rw[hm];rw[d]at e;refine⟨I 6,H,bn rfl rfl (abA _ _ _ ?_),by rw[fO h];exact G,Step.refl _ _⟩;simp only[xq_,WR,e]
 |false=>
  rw[d]at e;by_cases j:p.left=0
  ·have hc:p.cur=none:=by
    unfold Proc.cur;unfold Proc.left at j;exact zaI V
   have hm:p.Aq=p:=by simp[Proc.Aq,hc]
   rw[hm];rw[j]at k;refine⟨I 6,H,bn rfl rfl (abA _ _ _ ?_),by rw[fO h];exact G,Step.refl _ _⟩;simp only[xq_,WR,e,k]
  ·have hc:p.cur≠none:=by
    unfold Proc.cur;unfold Proc.left at j;intro o;have:=List.getElem?_eq_none_iff.1 o;omega
   have hm:p.Aq={ p with fU:=true }:=by
    unfold Proc.Aq;rw[if_neg (by rw[d];exact λh=>h.elim (λh=>(by cases h)) hc)]
   obtain⟨H',u,w,y,z⟩:=G.store hb h (i:=2) (v:=B true) (by simp[qU]) ER;rw[hm];refine⟨I 0,H',bn rfl rfl (abA _ _ _ ?_),w,y⟩;simp only[xq_,WR,e,k,j,u]
def alB(G:Good b H g)(hb:H.base<=b){p:Proc}(h:g q=some (qU p))(K:p.bT.length<1000)(v:Int):
  ∃r H',cl 187 [.ref q 0 0,I v] H=some (r,H')/\Good b H' (upd g q (qU (p.CU v)))/\Step b H H':=by
 have j:=G.load h (i:=2) (x:=B p.fU) rfl;cases d:p.fU with
 |false=>
  have hm:p.CU v=p:=by simp[Proc.CU,d]
  rw[hm];rw[d]at j;refine⟨I 6,H,bn rfl rfl (aiP _ _ _ _ ?_),by rw[fO h];exact G,Step.refl _ _⟩;simp only[xq_,abK,j,zai]
 |true=>
  have hm:p.CU v=⟨p.ops,p.bT++[v],false⟩:=by simp[Proc.CU,d]
  rw[hm];rw[d]at j;obtain⟨x,u,c⟩:=G.seq h (i:=1) rfl;obtain⟨L,H1,M,w,y,z,k⟩:=(G.new (.blk 0 3 [I v])).append (e:=3) (by_:=8) (n:=p.bT.length) (by rw[jh];exact hb) h (i:=1) rfl J O (c.new _) (jX (ex:=true) (n:=1) (m:=1) (l:=[I v]) rfl) rfl (by unfold most;omega) (by unfold most;omega);have A:upd g q ((qU p).set 1 (.seq 1 (p.bT.map I++[I v]))) q=some ((qU p).set 1 (.seq 1 (p.bT.map I++[I v]))):=aT;obtain⟨C,D,o,E,Q⟩:=z.store (by rw[k.base,jh];exact hb) A (i:=2) (v:=B false) (by simp[qU]) ER;rw[pz]at o;have F:∀H,bs 22 1 [(0,I v)] H=some (.sl H.next 0 0 1 1 1 true,H.new (.blk 0 3 [I v])):=λH=>(Nz J).trans (jP rfl rfl rfl);refine⟨I 0,C,bn rfl rfl (aiP _ _ _ _ ?_),?_,((Step.new _ G.1).trans k).trans E⟩
  ·simp only[xq_,abK,j,zae,u,F,w,y,D]
  ·have:qU ⟨p.ops,p.bT++[v],false⟩=((qU p).set 1 (.seq 1 (p.bT.map I++[I v]))).set 2 (.av (B false)):=by simp[qU]
   rw[this];exact o
end
section
variable {b:Nat}{H:ah}{g:bF}{q:Nat}
def alC(G:Good b H g)(hb:H.base<=b){p:Proc}(h:g q=some (qU p))(T:p.ops.length<1000)(W:p.bT.length<1000)(hv:p.bT.length<=p.ops.length):
  ∃H',cl 136 [.ref q 0 0] H=some (.tup [.agg p.op.av,I p.idx,B p.cur.isSome],H')/\Good b H' g/\Step b H H':=by
 refine kN rfl rfl (ao2 _ _ _) ?_;have L:=(Loc.of G).newL (ty:=61) (xs:=[zI,zI,zI]) (r:=H.next) rfl rfl;have E:Step b H _:=Step.new (.blk 0 61 [zI,zI,zI]) G.1;have v:=Xu L.good (L.obj h) T W;have d:(H.new (.blk 0 61 [zI,zI,zI])).base<=b:=by rw[jh];exact hb
 have X:Opn.zero.av=[zI,zI,zI]:=rfl;by_cases j:p.left=0
 ·have hc:p.cur=none:=by
   unfold Proc.cur;unfold Proc.left at j;exact zaI (by omega)
  obtain⟨K,e,w,y,z⟩:=L.whole d aj (n:=3) (vs:=[zI,zI,zI]) rfl rfl (by decide) rfl;have ez:bd 61 []=some (.agg [zI,zI,zI]):=by simp only[xq_,aeM,jg,dY]
  refine⟨K,?_,y.out,E.trans z⟩;rw[j]at v;have hi:p.idx=0:=by simp[Proc.idx,hc]
  have m:p.op.av=[zI,zI,zI]:=by simp only[Proc.op,hc,zaZ];exact X
  simp only[xq_,abv,v,ez,e,w,hi,m,hc,zaK]
 ·have A:p.bT.length<p.ops.length:=by unfold Proc.left at j;omega
  obtain⟨o,m⟩:∃o,p.ops[p.bT.length]?=some o:=⟨_,zab A⟩
  have hc:p.cur=some o:=m;have l0:=L.good.load (L.obj h) (i:=0) (x:=vsl 3 Opn.av p.ops) rfl;obtain⟨x,u,c⟩:=L.good.seq (L.obj h) (i:=1) rfl;have e2:=(c.is (n:=p.bT.length) (by decide) (by simp)).lnS;have F:=HY eU (H.new (.blk 0 61 [zI,zI,zI])) p.ops;have M:=F.ix (k:=.i64) (i:=(p.bT.length:Int)) (by omega) (by omega);rw[zam]at M;have e4:=lX eU F m;obtain⟨K,e,w,y,z⟩:=L.whole d aj (n:=3) (vs:=o.av) rfl (eU _) (by decide) (oz _);have c1:∀{β:Type} (k:Option β),ck (bQ (.ref q 0 1)) (H.new (.blk 0 61 [zI,zI,zI])) K k=k:=λk=>wC (oQ e (by have:=G.lt h;omega));have c2:∀{β:Type} (k:Option β),ck (bQ x) (H.new (.blk 0 61 [zI,zI,zI])) K k=k:=λk=>YO λr Q=>by
   refine oQ e ?_;obtain⟨c0,aa,R⟩:=G.seq h (i:=1) rfl;have C:x=c0:=by
    have:=(R.new (.blk 0 61 [zI,zI,zI])).load;rw[this]at u;simp only[zaa,zad]at u;exact u.1.symm
   subst C;rcases R.length (n:=p.bT.length) (by decide) (by simp)with⟨rfl,_⟩|⟨r',gg,off,ab,ex,ty,all,rfl,q1,q2,q3,_⟩
   ·cases Q
   ·simp only[bQ,zaa]at Q;omega
  refine⟨K,?_,y.out,E.trans z⟩;have hi:p.idx=p.bT.length:=by simp[Proc.idx,hc]
  have D:p.op=o:=by simp[Proc.op,hc]
  simp only[xq_,abv,v,j,l0,u,e2,M,e4,e,w,c1,c2,hi,D,hc,zaO]
end
def ard {β:Type}{s b:Nat}{H H':ah}{k:Option β}(h:∀r,s<=r->r<b->H'.get r=H.get r):ckR s b H H' k=k:=if_pos h
def LU(r gg o:Nat)(v:AV){H H':ah}(h:st 1 (.ref r gg (o+1)) v H=some (aY,H')):cl 230 [.ref r gg o,v] H=some (.tup [],H'):=by
 refine bn rfl rfl (aqs _ _ _ _ ?_);simp only[xq_,ajb,h]
def ac6(r gg o:Nat)(v:AV){H H':ah}(h:st 1 (.ref r gg o) v H=some (aY,H')):cl 231 [.ref r gg o,v] H=some (.tup [],H'):=by
 refine bn rfl rfl (aqt _ _ _ _ ?_);simp only[xq_,ajc,h]
section
variable {b:Nat}{H:ah}{g:bF}{q:Nat}{ca:Cache}
def OU {K:ah}{ls:Lcl}(L:Loc b K g ls)(hb:K.base<=b)(h:g q=some (dD ca))(C:COk ca)(e:Ent)(p:e.data.length<1000000000)(out:Pkt){r4 r6 r8:Nat}(k4:ls r4=some zP9)(u:ls r6=some e.av)(d:ls r8=some out.av):
  ∃H',yh cl (.ref q 0 0) (.ref r4 0 0) (.ref r6 0 0) (.ref r8 0 0) K=some (.tup [.agg out.av,I (ca.put e).2],H')/\Good b H' (upd g q (dD (ca.put e).1))/\Step b K H':=by
 have v:=L.lda d (i:=0) (n:=9) (ys:=out.av) rfl rfl J;have w:=L.lda u (i:=0) (n:=6) (ys:=e.av) rfl rfl J;obtain⟨y,m,z,o⟩:=BD L.good hb (L.obj h) C e p;have M:=L.call h z;have j:∀{β:Type} (k:Option β),ck (bQ (.ref r8 0 0)) K y k=k:=λk=>wC (XK L.good M.good (XG _ _ _ _ _ m) (pR d) (pR d));obtain⟨A,D,E,F,G⟩:=M.whole (by rw[o.base];exact hb) k4 (n:=9) (vs:=out.av) rfl rfl J (aW _);refine⟨A,?_,F.out,o.trans G⟩;simp only[xq_,yh,v,w,m,D,E,j]
end
section
variable {b:Nat}{H:ah}{g:bF}{q:Nat}{ca:Cache}
def ZH(r:Cache × Pkt × Int):AV:=.tup [.agg r.2.1.av,I r.2.2]
def RJ(G:Good b H g)(hb:H.base<=b)(h:g q=some (dD ca))(C:COk ca)(p:Pkt)(hx:(!p.ok || decide (p.aU<3) || decide (6<p.aU))=true∨ca.find p.ak=none):
  ∃H',cl 199 [.ref q 0 0,.agg p.av] H=some (ZH (fP ca p),H')/\Good b H' (upd g q (dD (fP ca p).1))/\Step b H H':=by
 refine kN rfl rfl (aiW _ _ _ _) ?_;have L1:=(Loc.of G).newL (ty:=81) (xs:=p.av) (r:=H.next) (aW p) rfl;have L2:=L1.newL (ty:=81) (xs:=zP9) (r:=H.next+1) rfl (by rw[eF]);have s2:Step b H _:=(Step.new (.blk 0 81 p.av) G.1).trans (Step.new (.blk 0 81 zP9) L1.good.1);have k0:iH (iH noL H.next p.av) (H.next+1) zP9 H.next=some p.av:=by rw[aB (by omega),aj]
 have p0:=L2.ld k0 (i:=0) (v:=I p.aU) rfl;have p4:=L2.ld k0 (i:=4) (v:=I p.ak) rfl;have pA:=L2.lda k0 (i:=0) (n:=9) (ys:=p.av) rfl rfl (by decide);have ck:=λH=>Bo H p;have ez:bd 81 []=some (.agg zP9):=by simp only[xq_,zC,jg,dY]
 have hbK:((H.new (.blk 0 81 p.av)).new (.blk 0 81 zP9)).base<=b:=by rw[s2.base];exact hb
 by_cases h1:(!p.ok || decide (p.aU<3) || decide (6<p.aU))=true
 ·have hm:fP ca p=(ca,.zero,1):=by simp only[fP];rw[if_pos h1]
  rw[hm];obtain⟨K,z1,z2,z3,z4⟩:=L2.whole hbK aj (n:=9) (vs:=zP9) rfl rfl (by decide) rfl;refine⟨K,?_,by rw[fO h];exact z3.out,s2.trans z4⟩;cases hok:p.ok with
  |false=>
   rw[hok]at ck;simp only[Nat.reduceLT,Int.reduceEq,xq_,A8,aC (aW p),pA,ck,zai,ez,z1,z2,ZH,fJ]
  |true=>
   rw[hok]at ck h1;by_cases h3:p.aU<3
   ·simp only[Nat.reduceLT,xq_,A8,aC (aW p),pA,ck,zae,p0,h3,ez,z1,z2,ZH,fJ]
   ·have h6:6<p.aU:=by simpa [h3]using h1
    simp only[Nat.reduceLT,xq_,A8,aC (aW p),pA,ck,zae,p0,h3,h6,ez,z1,z2,ZH,fJ]
 ·have hfn:ca.find p.ak=none:=hx.resolve_left h1;have hm:fP ca p=(ca,.zero,3):=by simp only[fP,hfn];rw[if_neg h1];rfl
  rw[hm];have hok:p.ok=true/\¬p.aU<3/\¬6<p.aU:=by
   cases ho:p.ok <;> simp_all
  have ef:=nI L2.good (L2.obj h) C.len C.dat p.ak;rw[hfn]at ef;simp only[jG,zaZ,zaK,rV]at ef;have LE:=L2.newL (ty:=100) (xs:=zE6) (r:=H.next+1+1) rfl (by rw[eF,eF]);have sE:Step b H _:=s2.trans (Step.new (.blk 0 100 zE6) L2.good.1);obtain⟨KE,x1,x2,ME,x4⟩:=LE.whole (by rw[sE.base];exact hb) aj (n:=6) (vs:=zE6) rfl rfl (by decide) rfl;have tE:=sE.trans x4;obtain⟨K,z1,z2,z3,z4⟩:=ME.whole (by rw[tE.base];exact hb) (r:=H.next+1) (xs:=zP9) (by rw[aB (by omega),aB (by omega),aj]) (n:=9) (vs:=zP9) rfl rfl (by decide) rfl;refine⟨K,?_,by rw[fO h];exact z3.out,tE.trans z4⟩;rw[hok.1]at ck;simp only[Nat.reduceLT,xq_,A8,aC (aW p),pA,ck,zae,zai,p0,hok.2.1,hok.2.2,p4,ef,x1,ez,z1,z2,ZH,fJ]
end
section
variable {b:Nat}{H:ah}{g:bF}{q:Nat}{ca:Cache}
def afU(G:Good b H g)(hb:H.base<=b)(h:g q=some (dD ca))(C:COk ca)(p:Pkt)(hx:¬(!p.ok || decide (p.aU<3) || decide (6<p.aU))=true){e:Ent}(hfd:ca.find p.ak=some e):
  ∃H',cl 199 [.ref q 0 0,.agg p.av] H=some (ZH (fP ca p),H')/\Good b H' (upd g q (dD (fP ca p).1))/\Step b H H':=by
 have hok:p.ok=true/\¬p.aU<3/\¬6<p.aU:=by
  cases ho:p.ok <;> simp_all
 have he:e.data.length<1000000000:=C.dat e (zbs hfd);refine kN rfl rfl (aiW _ _ _ _) ?_;have L1:=(Loc.of G).newL (ty:=81) (xs:=p.av) (r:=H.next) (aW p) rfl;have L2:=L1.newL (ty:=81) (xs:=zP9) (r:=H.next+1) rfl (by rw[eF]);have s2:Step b H _:=(Step.new (.blk 0 81 p.av) G.1).trans (Step.new (.blk 0 81 zP9) L1.good.1);have k0:iH (iH noL H.next p.av) (H.next+1) zP9 H.next=some p.av:=by rw[aB (by omega),aj]
 have p0:=L2.ld k0 (i:=0) (v:=I p.aU) rfl;have p4:=L2.ld k0 (i:=4) (v:=I p.ak) rfl;have pA:=L2.lda k0 (i:=0) (n:=9) (ys:=p.av) rfl rfl (by decide);have ck:=λH=>Bo H p;have ef:=nI L2.good (L2.obj h) C.len C.dat p.ak;rw[hfd]at ef;simp only[jG,zat,zaO]at ef;have LE:=L2.newL (ty:=100) (xs:=zE6) (r:=H.next+1+1) rfl (by rw[eF,eF]);have sE:Step b H _:=s2.trans (Step.new (.blk 0 100 zE6) L2.good.1);obtain⟨KE,x1,x2,ME,x4⟩:=LE.whole (by rw[sE.base];exact hb) aj (n:=6) (vs:=e.av) rfl rfl (by decide) (jO e);have tE:=sE.trans x4;have nE:H.next+1+1<KE.next:=ME.good.lt (pR (g:=g) aj)
 have LO:=ME.newL (ty:=81) (xs:=zP9) (r:=KE.next) rfl rfl;have tO:=tE.trans (Step.new (.blk 0 81 zP9) ME.good.1);let out:Pkt:=⟨DW p.aU,p.dst,p.src,p.id,p.ak,0,0,false,[]⟩
 have y0:∀{xs:List AV} {l:Lcl},True:=λ{_ _}=>trivial;obtain⟨K0,o1,o2,M0,o4⟩:=LO.whole (by rw[jh,tE.base];exact hb) (r:=KE.next) aj (n:=9) (vs:=out.av) rfl (bZ _) (by decide) (aW _);have t0:=tO.trans o4;have hbK:K0.base<=b:=by rw[t0.base];exact hb
 have ebd:bd 81 [(0,I (DW p.aU)),(1,I p.dst),(2,I p.src),(3,I p.id),(4,I p.ak)]=some (.agg out.av):=by
  simp only[xq_,zC,jg,fK,Ue,out,Pkt.av,Em];rfl
 have ea:=λH=>Rz H p.aU;have m0:∀{l:Lcl},iH (iH (iH (iH (iH (iH noL H.next p.av) (H.next+1) zP9) (H.next+1+1) zE6) (H.next+1+1) e.av) KE.next zP9) KE.next out.av H.next=some p.av:=λ{_}=>by
  rw[aB (by omega),aB (by omega),aB (by omega),aB (by omega),aB (by omega),aj]
 have kE0:iH (iH (iH (iH (iH noL H.next p.av) (H.next+1) zP9) (H.next+1+1) zE6) (H.next+1+1) e.av) KE.next zP9 H.next=some p.av:=by
  rw[aB (by omega),aB (by omega),aB (by omega),aB (by omega),aj]
 have r0:=LO.ld kE0 (i:=0) (v:=I p.aU) rfl;have r1:=LO.ld kE0 (i:=1) (v:=I p.src) rfl;have r2:=LO.ld kE0 (i:=2) (v:=I p.dst) rfl;have r3:=LO.ld kE0 (i:=3) (v:=I p.id) rfl;have r4:=LO.ld kE0 (i:=4) (v:=I p.ak) rfl;have q0:=M0.ld (m0 (l:=noL)) (i:=0) (v:=I p.aU) rfl;have q5:=M0.ld (m0 (l:=noL)) (i:=5) (v:=I p.ptr) rfl;rw[hok.1]at ck;by_cases h4:p.aU=4
 ·have hm:fP ca p=((ca.put { e with fwd:=p.ptr }).1,out,(ca.put { e with fwd:=p.ptr }).2):=by
   simp only[fP,hfd];rw[if_neg hx,if_neg (by omega),if_pos h4]
  rw[hm];obtain⟨K1,u1,M1,w1⟩:=M0.st hbK (r:=H.next+1+1) (xs:=e.av) (by rw[aB (by omega),aB (by omega),aj]) (i:=0) (v:=I p.ptr) (by simp[Ent.av]) dV;have t1:=t0.trans w1;obtain⟨H',f1,f2,f3⟩:=OU M1 (by rw[t1.base];exact hb) h C { e with fwd:=p.ptr } he out (r4:=H.next+1) (r6:=H.next+1+1) (r8:=KE.next) (by rw[aB (by omega),aB (by omega),aB (by omega),aB (by omega),aB (by omega),aj]) (by rw[aj];rfl) (by rw[aB (by omega),aj]);refine⟨H',?_,f2,t1.trans f3⟩;have sf:=ac6 _ _ _ _ u1;rw[h4]at q0;simp only[Nat.reduceLT,Int.reduceEq,xq_,A8,aC (aW p),pA,ck,zae,p0,hok.2.1,hok.2.2,p4,ef,x1,r0,ea,r1,r2,r3,r4,ebd,o1,q0,q5,sf,f1,ZH]
 ·by_cases h5:p.aU=5
  ·have hm:fP ca p=((ca.put { e with back:=p.ptr }).1,out,(ca.put { e with back:=p.ptr }).2):=by
    simp only[fP,hfd];rw[if_neg hx,if_neg (by omega),if_neg h4,if_pos h5]
   rw[hm];obtain⟨K1,u1,M1,w1⟩:=M0.st hbK (r:=H.next+1+1) (xs:=e.av) (by rw[aB (by omega),aB (by omega),aj]) (i:=1) (v:=I p.ptr) (by simp[Ent.av]) dV;have t1:=t0.trans w1;obtain⟨H',f1,f2,f3⟩:=OU M1 (by rw[t1.base];exact hb) h C { e with back:=p.ptr } he out (r4:=H.next+1) (r6:=H.next+1+1) (r8:=KE.next) (by rw[aB (by omega),aB (by omega),aB (by omega),aB (by omega),aB (by omega),aj]) (by rw[aj];rfl) (by rw[aB (by omega),aj]);refine⟨H',?_,f2,t1.trans f3⟩;have sf:=LU _ _ 0 _ u1;rw[h5]at q0;simp only[Nat.reduceLT,Int.reduceEq,xq_,A8,aC (aW p),pA,ck,zae,p0,hok.2.1,hok.2.2,p4,ef,x1,r0,ea,r1,r2,r3,r4,ebd,o1,q0,q5,sf,f1,ZH]
  ·have zE:iH (iH (iH (iH (iH (iH noL H.next p.av) (H.next+1) zP9) (H.next+1+1) zE6) (H.next+1+1) e.av) KE.next zP9) KE.next out.av (H.next+1+1)=some e.av:=by rw[aB (by omega),aB (by omega),aj]
   have g5:=M0.ld zE (i:=5) (v:=dat e.data) rfl;have g4:=M0.ld zE (i:=4) (v:=B e.bP) rfl;have g0:=M0.ld zE (i:=0) (v:=I e.fwd) rfl;obtain⟨K1,u1,M1,w1⟩:=M0.st hbK (r:=KE.next) aj (i:=8) (v:=dat e.data) (by simp[Pkt.av]) sJ;have t1:=t0.trans w1;obtain⟨K2,u2,M2,w2⟩:=M1.st (by rw[t1.base];exact hb) (r:=KE.next) aj (i:=7) (v:=B e.bP) (by simp[Pkt.av]) ER;have t2:=t1.trans w2;have c1:∀{β:Type} (o:Nat) (k:Option β),Proofs.YtgplhpgkompkmaaGreat.ck (bQ (.ref (H.next+1+1) 0 o)) K0 K1 k=k:=λo k=>wC (oQ u1 (by omega));have c2:∀{β:Type} (o:Nat) (k:Option β),Proofs.YtgplhpgkompkmaaGreat.ck (bQ (.ref (H.next+1+1) 0 o)) K1 K2 k=k:=λo k=>wC (oQ u2 (by omega));by_cases h3:p.aU=3
   ·have hm:fP ca p=((ca.put { e with bP:=false,back:=p.ptr }).1,{ out with data:=e.data,flag:=e.bP },(ca.put { e with bP:=false,back:=p.ptr }).2):=by
     simp only[fP,hfd];rw[if_neg hx,if_pos h3]
    rw[hm];obtain⟨K3,u3,M3,w3⟩:=M2.st (by rw[t2.base];exact hb) (r:=H.next+1+1) (xs:=e.av) (by rw[aB (by omega),aB (by omega)];exact zE) (i:=4) (v:=B false) (by simp[Ent.av]) ER;have t3:=t2.trans w3;have q5':=M3.ld (r:=H.next) (xs:=p.av) (i:=5) (v:=I p.ptr) (by rw[aB (by omega),aB (by omega),aB (by omega)];exact m0 (l:=noL)) rfl;obtain⟨K4,u4,M4,w4⟩:=M3.st (by rw[t3.base];exact hb) (r:=H.next+1+1) aj (i:=1) (v:=I p.ptr) (by simp[Ent.av]) dV;have t4:=t3.trans w4;obtain⟨H',f1,f2,f3⟩:=OU M4 (by rw[t4.base];exact hb) h C { e with bP:=false,back:=p.ptr } he { out with data:=e.data,flag:=e.bP } (r4:=H.next+1) (r6:=H.next+1+1) (r8:=KE.next) (by rw[aB (by omega),aB (by omega),aB (by omega),aB (by omega),aB (by omega),aB (by omega),aB (by omega),aB (by omega),aj]) (by rw[aj];rfl) (by rw[aB (by omega),aB (by omega),aj];rfl);refine⟨H',?_,f2,t4.trans f3⟩;have sf:=LU _ _ 0 _ u4;rw[h3]at q0;simp only[Nat.reduceLT,Int.reduceEq,xq_,A8,aC (aW p),pA,ck,zae,p0,hok.2.1,hok.2.2,p4,ef,x1,r0,ea,r1,r2,r3,r4,ebd,o1,q0,g5,g4,u1,u2,c1,u3,q5',sf,f1,ZH]
   ·have h6:p.aU=6:=by omega
    have hm:fP ca p=(ca.drop p.ak,{ out with data:=e.data,flag:=e.bP,ptr:=e.fwd },0):=by
     simp only[fP,hfd];rw[if_neg hx,if_neg h3,if_neg h4,if_neg h5]
    rw[hm];obtain⟨K3,u3,M3,w3⟩:=M2.st (by rw[t2.base];exact hb) (r:=KE.next) aj (i:=5) (v:=I e.fwd) (by simp[Pkt.av]) dV;have t3:=t2.trans w3;have q4:=M3.ld (r:=H.next) (xs:=p.av) (i:=4) (v:=I p.ak) (by rw[aB (by omega),aB (by omega),aB (by omega)];exact m0 (l:=noL)) rfl;obtain⟨K4,a1,a2,a3⟩:=Je M3.good (by rw[t3.base];exact hb) (M3.obj h) C.len C.dat p.ak;have M4:=M3.call h a2;have t4:=t3.trans a3;have lo:=M4.lda (r:=KE.next) aj (i:=0) (n:=9) (ys:=({ out with data:=e.data,flag:=e.bP,ptr:=e.fwd }:Pkt).av) rfl rfl (by decide);obtain⟨K5,v1,v2,v3,v4⟩:=M4.whole (by rw[t4.base];exact hb) (r:=H.next+1) (xs:=zP9) (by rw[aB (by omega),aB (by omega),aB (by omega),aB (by omega),aB (by omega),aB (by omega),aB (by omega),aj]) (n:=9) (vs:=({ out with data:=e.data,flag:=e.bP,ptr:=e.fwd }:Pkt).av) rfl (bZ _) (by decide) (aW _);refine⟨K5,?_,v3.out,t4.trans v4⟩;rw[h6]at q0;simp only[Nat.reduceLT,Int.reduceEq,xq_,A8,aC (aW p),pA,ck,zae,p0,hok.2.1,hok.2.2,p4,ef,x1,r0,ea,r1,r2,r3,r4,ebd,o1,q0,g5,g4,g0,u1,u2,u3,c1,c2,q4,a1,lo,v1,v2,ZH]
end
section
variable {b:Nat}{H:ah}{g:bF}{q d tt:Nat}{c:Cfg}{me:Int}{h:Home}
def Y2(G:Good b H g)(N:nR g q d tt c me h)(T:TOk h.bf):cl 140 [.ref q 0 0] H=some (B (decide (h.ready≠[])),H):=by
 refine bg rfl rfl (ao7 _ _ _) ?_ fC;have k:=G.guard.load N.1 (i:=1) (x:=.ref tt 0 0) rfl;have j:=LP G.guard N.2.2 T;have m:=(fH H.guard h.ready).lnS;have n:h.bf.ready (srt [] (h.bf.wait.map (·.1)))=h.ready:=rfl;rw[n]at j;by_cases e:h.ready=[]
 ·have:¬(0:Int)<(h.ready.length:Int):=by rw[e];decide
  simp only[xq_,abx,k,j,e,ne_eq,not_true_eq_false]
  try rfl
 ·have:(0:Int)<(h.ready.length:Int):=by
   cases o:h.ready with
   |nil=>exact absurd o e
   |cons a l=>simp only[zak];omega
  simp only[xq_,abx,k,j,m,this,e,ne_eq,not_false_eq_true]
end
section
variable {b:Nat}{H:ah}{g:bF}{q d tt:Nat}{c:Cfg}{me:Int}{h:Home}
def afV(G:Good b H g)(hb:H.base<=b)(N:nR g q d tt c me h)(T:TOk h.bf)(hr:∀e∈h.dR,e.2.data.length<1000000000):
  ∃H',cl 142 [.ref q 0 0] H=some (.tup [.agg (h.grant me).2.1.av,B (h.grant me).2.2],H')/\Good b H' (lI g d tt c (h.grant me).1)/\Step b H H':=by
 refine kN rfl rfl (ao9 _ _ _) ?_;have L:=(Loc.of G).newL (ty:=81) (xs:=zP9) (r:=H.next) rfl rfl;have s1:Step b H _:=Step.new (.blk 0 81 zP9) G.1;have hbK:(H.new (.blk 0 81 zP9)).base<=b:=by rw[jh];exact hb
 have l1:=L.good.load (L.obj N.1) (i:=1) (x:=.ref tt 0 0) rfl;have e1:=LP L.good (L.obj N.2.2) T;have e2:=(fH (H.new (.blk 0 81 zP9)) h.ready).lnS;have hre:h.bf.ready (srt [] (h.bf.wait.map (·.1)))=h.ready:=rfl;rw[hre]at e1;have ez:bd 81 []=some (.agg zP9):=by simp only[xq_,zC,jg,dY]
 cases hz:h.ready with
 |nil=>
  have hm:h.grant me=(h,.zero,false):=by simp only[Home.grant,hz]
  rw[hm,F9 N];obtain⟨K,z1,z2,z3,z4⟩:=L.whole hbK aj (n:=9) (vs:=zP9) rfl rfl (by decide) rfl;refine⟨K,?_,z3.out,s1.trans z4⟩;rw[hz]at e1 e2;have n0:¬((0:Int)<((([]:List Int).length:Nat):Int)):=by decide
  simp only[xq_,abz,l1,e1,e2];rw[WQ];simp only[xq_,n0,ez,z1,z2,fJ]
 |cons ak rest=>
  obtain⟨m1,m2,_⟩:=Aw hz;obtain⟨w,ws,hw⟩:∃w ws,h.bf.ws ak=w::ws:=by
   cases hx:h.bf.ws ak with
   |nil=>exact absurd hx m2
   |cons a l=>exact⟨a,l,rfl⟩
  have hn:h.bf.next ak=(⟨mO h.bf.iF ak w.1,mO h.bf.wait ak ws⟩,some w):=by simp only[Turns.next,m1,hw,zal,if_false]
  have hm:h.grant me=({ h with bf:=(h.bf.next ak).1 },granted h.dR me ak w.1 w.2,true):=by simp only[Home.grant,hz,hn]
  rw[hm];obtain⟨K1,a1,a2,a3⟩:=acK L.good hbK (L.obj N.2.2) T.nd ak (T.ws ak);have M:=L.call N.2.2 a2;have NK:=N.alq { h with bf:=(h.bf.next ak).1 };rw[zO N]at NK ⊢;have NL:nR (lay (upd g tt (iT (h.bf.next ak).1)) (iH noL H.next zP9)) q d tt c me { h with bf:=(h.bf.next ak).1 }:=⟨M.obj NK.1,M.obj NK.2.1,M.obj NK.2.2⟩
  have gr:=LM M.good NL hr ak w.1 w.2;obtain⟨K,z1,z2,z3,z4⟩:=M.whole (by rw[a3.base];exact hbK) aj (n:=9) (vs:=(granted h.dR me ak w.1 w.2).av) rfl (bZ _) (by decide) (aW _);refine⟨K,?_,z3.out,(s1.trans a3).trans z4⟩;have hs:=fH (H.new (.blk 0 81 zP9)) h.ready;have x1:=hs.ix (k:=.i64) (i:=(0:Int)) (by omega) (by rw[hz];simp only[zak];omega);have x2:=hs.ld (i:=0) (by rw[hz];simp);rw[hz]at x1 x2 e1 e2;simp only[zaD,zaY,zaj]at x2;rw[show((0:Int).toNat)=0 from rfl]at x1;have n0:(0:Int)<(((ak::rest).length:Nat):Int):=by simp only[zak];omega
  rw[hn]at a1;simp only[aqO,zat,zaO]at a1;simp only[xq_,abz,l1,e1,e2];rw[WQ];simp only[xq_,n0,x1,x2,l1,a1,gr,z1,z2]
end
structure av5(c:Cfg)(o:Opn):Prop where
 k1:1<=o.aU
 k4:o.aU<=4
 ak:c.bW o.addr=o.addr.tdiv c.aV
 lo:0<=c.bW o.addr
 hi:c.bW o.addr<c.aO
 word:c.dG o.addr=o.addr.tmod c.aV
 wlo:0<=c.dG o.addr
 whi:c.dG o.addr<c.aV
def ar4 {c:Cfg}(hc:c.ok=true){o:Opn}(h:c.right o=true):av5 c o:=by
 obtain⟨_,m,hw,_⟩:=lS hc;unfold Cfg.right at h;simp only[zah,decide_eq_true_eq]at h;obtain⟨⟨⟨i,j⟩,k⟩,_⟩:=h;have b:¬(o.addr<0∨c.iC<=o.addr):=λe=>k (by unfold Cfg.bW;rw[if_pos e]);simp only[not_or]at b;have d:c.bW o.addr=o.addr / c.aV:=by unfold Cfg.bW;rw[if_neg (by simp only[not_or];exact b)]
 have g:c.dG o.addr=o.addr % c.aV:=by unfold Cfg.dG;rw[if_neg (by simp only[not_or];exact b)]
 have ha:o.addr<c.aO*c.aV:=by have:=b.2;unfold Cfg.iC at this;omega
 refine⟨i,j,?_,?_,?_,?_,?_,?_⟩
 ·rw[d,Int.tdiv_eq_ediv_of_nonneg V]
 ·rw[d];exact zde V V
 ·rw[d];exact Int.ediv_lt_of_lt_mul V ha
 ·rw[g,zcA V]
 ·rw[g];exact zbS _ V
 ·rw[g];exact zbU _ V
def qM(e:Ent)(o:Opn)(w:Int):(eX e o w).ak=e.ak/\(eX e o w).used=e.used/\(eX e o w).bP=e.bP/\(eX e o w).data.length=e.data.length:=by
 unfold eX;split
 ·unfold Ent.write;split <;> simp
 ·split
  ·unfold Ent.write;split <;> simp
  ·simp
def Y3 {c:Cfg}{e:Ent}{o:Opn}{w:Int}(hd:pG c e.data)(d:I64 o.value):pG c (eX e o w).data:=by
 refine⟨by rw[(qM e o w).2.2.2];exact hd.1,?_⟩;have key:∀v,I64 v->∀x∈(e.write w v).data,I64 x:=by
  intro v hv x b;unfold Ent.write at b;split at b
  ·rcases zbR b with h|h
   ·exact hd.2 x h
   ·rw[h];exact hv
  ·exact hd.2 x b
 unfold eX;split
 ·exact key _ d
 ·split
  ·exact key _ (ant _)
  ·exact hd.2
def OV {ca:Cache}(b:Lines ca.l){e:Ent}(h0:0<=e.ak)(g:ca.full e.ak=false):∃u,(ca.put e).1.find e.ak=some { e with used:=u }:=by
 cases h:ca.find e.ak with
 |some x=>
  refine⟨x.used,?_⟩;rw[nG b h0 h];obtain⟨i,d⟩:=(jm b).1 h;unfold Cache.find;rw[jm (AA b λy _=>by
   split
   ·rename_i h;exact h.symm
   ·rfl)]
  exact⟨zaM.2 ⟨x,i,by rw[if_pos d]⟩,rfl⟩
 |none=>
  refine⟨ca.dM+1,?_⟩;unfold Cache.put;rw[if_neg V,Iw.2 h];simp only[g,zal,if_false];unfold Cache.find;rw[List.find?_append];have:(ca.l.find? λx=>decide (x.ak=e.ak))=none:=h;rw[this];simp
def Jl(ca:Cache)(e:Ent):(ca.put e).1.dM<=ca.dM+1:=by
 unfold Cache.put;split
 ·simp only;omega
 ·split
  ·simp only;omega
  ·split <;> simp only <;> omega
def Du(ca:Cache)(ak:Int):(ca.drop ak).dM=ca.dM:=by
 unfold Cache.drop;split <;> rfl
def su(me:Int)(n:Node)(p:Pkt):n.after me p=Ea n.aJ me n.aI p:=rfl
def BG {d:bU}{me:Int}{ca:Cache}{p:Pkt}(h:d.fits p=false):Ea d me ca p=yK ca:=by
 have b:dX d me ca p=yK ca:=by unfold dX;rw[if_pos (.inr h)]
 have e:dZ d me ca p=yK ca:=by unfold dZ;rw[if_pos (.inr h)]
 have g:eG d ca p=yK ca:=by unfold eG;rw[if_pos (.inr h)]
 unfold Ea;rw[b,e,g];split
 ·rfl
 ·split
  ·rfl
  ·split <;> rfl
def ac7 {d:bU}{p:Pkt}(h:d.fits p=true):p.aU=DW (Aj d.step):=by
 unfold bU.fits at h;simp only[zah,decide_eq_true_eq]at h;exact h.1.1.2
structure Jm(c:Cfg)(d:bU)(ca:Cache)(d':bU)(ca':Cache):Prop where
 inv:EZ c ca'
 ak:d'.ak=d.ak
 aU:d'.aU=d.aU
 dat:d'.data=[]∨pG c d'.data
 akg:d'.aU=2->d'.step=3->pG c d'.data
 clk:ca'.dM<=ca.dM∨(d.aU≠3/\d'.step=6/\ca'.dM<=ca.dM+1)
 way:(d.step=6/\d'.step=0/\ca'=ca)∨(d'.step≠0/\d.step≠6/\(d.aU≠3->(d'.step≠6/\ca'=ca)∨(d'.step=6/\∃e,ca'.find d.ak=some e/\(d.aU=2->e.bP=true))))
def XL {c:Cfg}{ca:Cache}(I:EZ c ca){d:bU}{me:Int}(h0:0<=d.ak)(p:d.ak<c.aO)(q:ca.full d.ak=false)(hd:pG c d.data)(hk:d.aU=2)(w:d.step≠6){g:bU}(i:g.ak=d.ak)(j:g.aU=d.aU)(n:g.step≠6):
  Jm c g ca (dw d me ca).2 (dw d me ca).1:=by
 have key:∀d':bU,d'.ak=d.ak->d'.aU=d.aU->d'.data=d.data->Jm c g ca (if d'.next≠-1 then(ca,{ d' with step:=3 })else((ca.put ⟨-1,-1,d'.ak,0,true,d'.data⟩).1,{ d' with step:=6,state:=2,head:=me,data:=[] })).2 (if d'.next≠-1 then(ca,{ d' with step:=3 })else((ca.put ⟨-1,-1,d'.ak,0,true,d'.data⟩).1,{ d' with step:=6,state:=2,head:=me,data:=[] })).1:=by
  intro d' b o k;by_cases h:d'.next≠-1
  ·rw[if_pos h];exact⟨I,by rw[i];exact b,by rw[j];exact o,.inr (by simp only[k];exact hd),λ_ _=>by simp only[k];exact hd,.inl (zbt _),.inr ⟨O,n,λ_=>.inl ⟨O,rfl⟩⟩⟩
  ·rw[if_neg h];obtain⟨u,v⟩:=OV I.aO (e:=⟨-1,-1,d'.ak,0,true,d'.data⟩) (by simp only[b];exact h0) (by simp only[b];exact q);have m:(ca.put ⟨-1,-1,d'.ak,0,true,d'.data⟩).1.find g.ak=some ⟨-1,-1,d'.ak,u,true,d'.data⟩:=by
    rw[i,<-b];exact v
   exact⟨I.put (by simp only[b];exact h0) (by simp only[b];exact p) (by simp only[k];exact hd),by rw[i];exact b,by rw[j];exact o,.inl rfl,λ_ h=>by simp at h,.inr ⟨by rw[j,hk];decide,rfl,Jl _ _⟩,.inr ⟨O,n,λ_=>.inr ⟨rfl,_,m,λ_=>rfl⟩⟩⟩
 unfold dw;cases ca.find d.ak with
 |none=>exact key d rfl rfl rfl
 |some own=>
  by_cases h:d.next=me
  ·simp only[if_pos h];exact key { d with next:=own.fwd } rfl rfl rfl
  ·simp only[if_neg h];exact key d rfl rfl rfl
def OW {c:Cfg}{n:Node}{me:Int}(I:EZ c n.aI)(D:ahA c n)(hs0:n.aJ.step≠0){p:Pkt}(Q:yL c p){ca:Cache}{d:bU}(h:Ea n.aJ me n.aI p=(ca,d,true)):Jm c n.aJ n.aI d ca:=by
 have hf:n.aJ.fits p=true:=by
  cases e:n.aJ.fits p with
  |true=>rfl
  |false=>rw[BG e]at h;simp[yK]at h
 have hpk:=ac7 hf;have auy:n.aJ.step=1->pG c p.data:=λe=>Q.dat (.inl (by rw[hpk,e];rfl));have auz:n.aJ.step=2∨n.aJ.step=3->pG c p.data:=λe=>Q.dat (.inr (by rcases e with e|e <;> rw[hpk,e] <;> rfl));have s6:n.aJ.step=6->(n.aI,{ n.aJ with step:=0 },true)=(ca,d,true)->Jm c n.aJ n.aI d ca:=λs e=>by
  simp only[zad,and_true]at e;obtain⟨rfl,rfl⟩:=e;exact⟨I,rfl,rfl,D.dat,λ_ h=>by simp at h,.inl (zbt _),.inl ⟨s,rfl,rfl⟩⟩
 unfold Ea at h;by_cases k1:n.aJ.aU=1
 ·rw[if_pos k1]at h;unfold dX at h;rw[if_neg (show¬(n.aJ.aU≠1∨n.aJ.fits p=false) by rw[hf];rintro(h|h) <;> first|omega|cases h)]at h;have W:=D.work (by omega);by_cases t1:n.aJ.step=1
  ·rw[if_pos t1]at h;have W:=W (by omega);by_cases p0:p.state≠0
   ·rw[if_pos p0]at h;simp only[zad,and_true]at h;obtain⟨rfl,rfl⟩:=h;exact⟨I,rfl,rfl,.inr (auy t1),λh=>by simp only at h;omega,.inl (zbt _),.inr ⟨by simp,by omega,λ_=>.inl ⟨by simp,rfl⟩⟩⟩
   ·rw[if_neg p0]at h;simp only[zad,and_true]at h;obtain⟨rfl,rfl⟩:=h;obtain⟨u,hu⟩:=OV I.aO (e:=⟨-1,-1,n.aJ.ak,0,false,p.data⟩) D.lo W.full;exact⟨I.put D.lo D.hi (auy t1),rfl,rfl,.inl rfl,λ_ h=>by simp at h,.inr ⟨by omega,rfl,Jl _ _⟩,.inr ⟨by simp,by omega,λ_=>.inr ⟨rfl,_,hu,λh=>by omega⟩⟩⟩
  rw[if_neg t1]at h;by_cases t2:n.aJ.step=2
  ·rw[if_pos t2]at h;have W:=W (by omega);simp only[zad,and_true]at h;obtain⟨rfl,rfl⟩:=h;obtain⟨u,hu⟩:=OV I.aO (e:=⟨n.aJ.head,-1,n.aJ.ak,0,false,p.data⟩) D.lo W.full;refine⟨I.put D.lo D.hi (auz (.inl t2)),rfl,rfl,?_,λh=>by simp only at h;omega,.inr ⟨by omega,rfl,Jl _ _⟩,.inr ⟨by simp,by omega,λ_=>.inr ⟨rfl,_,hu,λh=>by omega⟩⟩⟩;simp only;split
   ·exact .inr (auz (.inl t2))
   ·exact .inl rfl
  rw[if_neg t2]at h;by_cases t6:n.aJ.step=6
  ·rw[if_pos t6]at h;exact s6 t6 h
  ·rw[if_neg t6]at h;simp[yK]at h
 rw[if_neg k1]at h;by_cases k2:n.aJ.aU=2
 ·rw[if_pos k2]at h;unfold dZ at h;rw[if_neg (show¬(n.aJ.aU≠2∨n.aJ.fits p=false) by rw[hf];rintro(h|h) <;> first|omega|cases h)]at h;have W:=D.work (by omega);by_cases t1:n.aJ.step=1
  ·rw[if_pos t1]at h;have W:=W (by omega);simp only[zad,and_true]at h;obtain⟨rfl,rfl⟩:=h;have key:∀dt,pG c dt->Jm c n.aJ n.aI (dw { n.aJ with state:=p.state,head:=p.ptr,told:=p.ptr,data:=dt,next:=p.ptr } me n.aI).2 (dw { n.aJ with state:=p.state,head:=p.ptr,told:=p.ptr,data:=dt,next:=p.ptr } me n.aI).1:=λdt hdt=>
    XL (d:={ n.aJ with state:=p.state,head:=p.ptr,told:=p.ptr,data:=dt,next:=p.ptr }) I D.lo D.hi W.full hdt k2 (show n.aJ.step≠6 by omega) rfl rfl (by omega)
   cases hfd:n.aI.find n.aJ.ak with
   |none=>exact key _ (auy t1)
   |some e=>exact key _ (I.ent e ((jm I.aO).1 hfd).1).dat
  rw[if_neg t1]at h;by_cases t3:n.aJ.step=3
  ·rw[if_pos t3]at h;have W:=W (by omega);simp only[zad,and_true]at h;obtain⟨rfl,rfl⟩:=h;have key:∀dt,pG c dt->Jm c n.aJ n.aI (dw { n.aJ with data:=dt,next:=p.ptr } me n.aI).2 (dw { n.aJ with data:=dt,next:=p.ptr } me n.aI).1:=λdt hdt=>
    XL (d:={ n.aJ with data:=dt,next:=p.ptr }) I D.lo D.hi W.full hdt k2 (show n.aJ.step≠6 by omega) rfl rfl (by omega)
   cases hfd:n.aI.find n.aJ.ak with
   |none=>exact key _ (auz (.inr t3))
   |some e=>exact key _ (D.akg k2 t3)
  rw[if_neg t3]at h;by_cases t6:n.aJ.step=6
  ·rw[if_pos t6]at h;exact s6 t6 h
  ·rw[if_neg t6]at h;simp[yK]at h
 rw[if_neg k2]at h;have k3:n.aJ.aU=3:=by have:=D.aU;omega
 rw[if_pos k3]at h;unfold eG at h;rw[if_neg (show¬(n.aJ.aU≠3∨n.aJ.fits p=false) by rw[hf];rintro(h|h) <;> first|omega|cases h)]at h;have no3:∀{P:Prop},n.aJ.aU≠3->P:=λh=>absurd k3 h;by_cases t1:n.aJ.step=1
 ·rw[if_pos t1]at h;cases hfd:n.aI.find n.aJ.ak with
  |none=>
   simp only[hfd,zad,and_true]at h;obtain⟨rfl,rfl⟩:=h;exact⟨I,rfl,rfl,.inl rfl,λh=>by simp only at h;omega,.inl (zbt _),.inr ⟨by simp,by omega,no3⟩⟩
  |some e=>
   simp only[hfd]at h;have E:=I.ent e ((jm I.aO).1 hfd).1;by_cases b1:e.back=-1/\e.fwd=-1
   ·simp only[if_pos b1,zad,and_true]at h;obtain⟨rfl,rfl⟩:=h;refine⟨I.drop _,rfl,rfl,?_,λh=>by simp only at h;omega,.inl (by rw[Du];exact zbt _),.inr ⟨by simp,by omega,no3⟩⟩;simp only;split
    ·exact .inr E.dat
    ·exact .inl rfl
   ·simp only[if_neg b1]at h;by_cases b2:e.back=-1
    ·simp only[if_pos b2,zad,and_true]at h;obtain⟨rfl,rfl⟩:=h;exact⟨I,rfl,rfl,.inl rfl,λh=>by simp only at h;omega,.inl (zbt _),.inr ⟨by simp,by omega,no3⟩⟩
    ·simp only[if_neg b2,zad,and_true]at h;obtain⟨rfl,rfl⟩:=h;exact⟨I,rfl,rfl,.inl rfl,λh=>by simp only at h;omega,.inl (zbt _),.inr ⟨by simp,by omega,no3⟩⟩
 rw[if_neg t1]at h;have out:∀hd,gW n.aJ n.aI hd=(ca,d,true)->n.aJ.step≠6->Jm c n.aJ n.aI d ca:=λhd e hs=>by
  simp only[gW,zad,and_true]at e;obtain⟨rfl,rfl⟩:=e;exact⟨I.drop _,rfl,rfl,.inl rfl,λh=>by simp only at h;omega,.inl (by rw[Du];exact zbt _),.inr ⟨by simp,hs,no3⟩⟩
 by_cases t4:n.aJ.step=4
 ·rw[if_pos t4]at h;split at h
  ·exact out _ h (by omega)
  ·simp only[zad,and_true]at h;obtain⟨rfl,rfl⟩:=h;exact⟨I,rfl,rfl,D.dat,λh=>by simp only at h;omega,.inl (zbt _),.inr ⟨by simp,by omega,no3⟩⟩
 rw[if_neg t4]at h;by_cases t5:n.aJ.step=5
 ·rw[if_pos t5]at h;split at h
  ·exact out _ h (by omega)
  ·exact out _ h (by omega)
 rw[if_neg t5]at h;by_cases t6:n.aJ.step=6
 ·rw[if_pos t6]at h;exact s6 t6 h
 ·rw[if_neg t6]at h;simp[yK]at h
structure Ti where
 a:Nat->Nat
 f:Nat
 P:Nat->Nat->Nat
 t:Nat
def ajv(S:Ti)(k:Nat)(q:Nat):Prop:=(∃i,i<6/\q=S.a i)∨PE S.P k q∨q=S.t
structure NW(g:bF)(S:Ti)(c:Cfg)(me:Int)(w:NFT):Prop where
 bH:qI g S.a c me w.1
 fab:iD g S.f S.P c w.2.1
 tr:g S.t=some (mP w.2.2)
 Xt:UW S.P w.2.1.l.length
 tf:S.t≠S.f
def jH {g:bF}{x y:Nat}{A B:List Cell}(h:g x=some A)(b:g y=some B)(d:A.length≠B.length):x≠y:=λe=>by
 subst e;rw[h]at b;exact d (by rw[zaW b])
def arf {g:bF}{x y:Nat}{A B:List Cell}(h:g x=some A)(b:g y=some B)(d:A[1]?≠B[1]?):x≠y:=λe=>by
 subst e;rw[h]at b;exact d (by rw[zaW b])
section
variable {b:Nat}{K K':ah}{g g':bF}{ls:Lcl}{S:Ti}{c:Cfg}{me:Int}{w:NFT}
def iq {a:Nat->Nat}{d:bU}{num:Int}:(yO a c me d num).length=22:=by simp[yO,OD,Cfg.av,bU.av]
def nS {l:List Evn}:(mP l).length=1:=rfl
def kG {P:Nat->Nat->Nat}{n:Nat}:(afu P n).length=1:=rfl
def gK {ca:Cache}:(dD ca).length=4:=rfl
def iZ {p:Proc}:(qU p).length=3:=rfl
def gQ {t:Turns}:(iT t).length=2:=rfl
def jS {l:List Pkt}{r:Int}:(nO l r).length=2:=rfl
def kH {r:Rows}:(EF c r).length=9:=by simp[EF,Cfg.av]
def jq {d t:Nat}:(EG d t c me).length=11:=by simp[EG,Cfg.av]
def NW.ac8(N:NW g S c me w):(∀i,i<6->S.a i≠S.t):=λi hi=>by
 obtain⟨b,d,e,h,j,k⟩:=N.bH
 match i,hi with
 |0,_=>exact jH b N.tr (by simp only[iq,nS];decide)
 |1,_=>exact jH d N.tr (by simp only[nS,gK];decide)
 |2,_=>exact jH e N.tr (by simp only[nS,iZ];decide)
 |3,_=>exact jH h N.tr (by simp only[nS,jq];decide)
 |4,_=>exact jH j N.tr (by simp only[nS,kH];decide)
 |5,_=>exact jH k N.tr (by simp only[nS,gQ];decide)
def NW.auA(N:NW g S c me w):(∀i,i<6->S.a i≠S.f):=λi hi=>by
 obtain⟨b,d,e,j,k,m⟩:=N.bH;have h:=N.fab.1
 match i,hi with
 |0,_=>exact jH b h (by simp only[iq,kG];decide)
 |1,_=>exact jH d h (by simp only[kG,gK];decide)
 |2,_=>exact jH e h (by simp only[kG,iZ];decide)
 |3,_=>exact jH j h (by simp only[kG,jq];decide)
 |4,_=>exact jH k h (by simp only[kG,kH];decide)
 |5,_=>exact jH m h (by simp only[kG,gQ];decide)
def NW.port {q:Nat}(N:NW g S c me w)(h:PE S.P w.2.1.l.length q):∃l r,g q=some (nO l r):=by
 obtain⟨i,s,hi,b,rfl⟩:=h;exact⟨_,_,gY (N.fab.port hi) b⟩
def NW.Y4(N:NW g S c me w){q:Nat}(h:PE S.P w.2.1.l.length q):(∀i,i<6->S.a i≠q)/\S.t≠q/\S.f≠q:=by
 obtain⟨l,r,b⟩:=N.port h;obtain⟨d,e,j,k,m,n⟩:=N.bH;refine⟨λi hi=>?_,jH N.tr b (by simp only[nS,jS];decide),jH N.fab.1 b (by simp only[kG,jS];decide)⟩
 match i,hi with
 |0,_=>exact jH d b (by simp only[iq,jS];decide)
 |1,_=>exact jH e b (by simp only[gK,jS];decide)
 |2,_=>exact jH j b (by simp only[iZ,jS];decide)
 |3,_=>exact jH k b (by simp only[jS,jq];decide)
 |4,_=>exact jH m b (by simp only[jS,kH];decide)
 |5,_=>exact arf n b (by simp[iT,nO])
def iD.same {f:Nat}{P:Nat->Nat->Nat}{fab:Fab}(F:iD g f P c fab)(b:g' f=g f)(d:∀q,PE P fab.l.length q->g' q=g q):iD g' f P c fab:=
 ⟨by rw[b];exact F.1,λi p hi=>(F.2.1 i p hi).ext λs e=>d _ ⟨i,s,(zaf.1 hi).1,e,rfl⟩,F.2.2⟩
def NW.set(N:NW g S c me w){n:Node}(b:qI g' S.a c me n)(h:∀q,(∀i,i<6->q≠S.a i)->g' q=g q):NW g' S c me (n,w.2):=by
 refine⟨b,N.fab.same (h _ λi hi=>(N.auA i hi).symm) (λq d=>h _ λi hi=>((N.Y4 d).1 i hi).symm),?_,N.Xt,N.tf⟩;rw[h _ λi hi=>(N.ac8 i hi).symm];exact N.tr
def Off.ar5 {k:Nat}(h:∀q,(∀i,i<6->q≠S.a i)->g' q=g q):Off (ajv S k) g g':=λq b=>h q λi hi e=>b (.inl ⟨i,hi,e⟩)
def Dv {i:Nat}(hi:i<6){cs:List Cell}:∀q,(∀i,i<6->q≠S.a i)->upd g (S.a i) cs q=g q:=λq b=>bD (b i hi)
def NW.aI(N:NW g S c me w)(ca:Cache):NW (upd g (S.a 1) (dD ca)) S c me ({ w.1 with aI:=ca },w.2):=by
 refine N.set ?_ (Dv J);have I:=N.bH;obtain⟨b,n,d,j,k,m⟩:=N.bH;have ne:∀i,i<6->i≠1->S.a i≠S.a 1:=λi hi h e=>h (I.inj hi J e);exact⟨by rw[bD (ne 0 J J)];exact b,aT,by rw[bD (ne 2 J J)];exact d,by rw[bD (ne 3 J J)];exact j,by rw[bD (ne 4 J J)];exact k,by rw[bD (ne 5 J J)];exact m⟩
def NW.dn(N:NW g S c me w)(p:Proc):NW (upd g (S.a 2) (qU p)) S c me ({ w.1 with dn:=p },w.2):=by
 refine N.set ?_ (Dv J);have I:=N.bH;obtain⟨b,d,n,j,k,m⟩:=N.bH;have ne:∀i,i<6->i≠2->S.a i≠S.a 2:=λi hi h e=>h (I.inj hi J e);exact⟨by rw[bD (ne 0 J J)];exact b,by rw[bD (ne 1 J J)];exact d,aT,by rw[bD (ne 3 J J)];exact j,by rw[bD (ne 4 J J)];exact k,by rw[bD (ne 5 J J)];exact m⟩
def NW.own(N:NW g S c me w)(d:bU)(num:Int):NW (upd g (S.a 0) (yO S.a c me d num)) S c me ({ w.1 with aJ:=d,num:=num },w.2):=by
 refine N.set ?_ (Dv J);have I:=N.bH;obtain⟨o,b,j,k,m,n⟩:=N.bH;have ne:∀i,i<6->i≠0->S.a i≠S.a 0:=λi hi h e=>h (I.inj hi J e);exact⟨aT,by rw[bD (ne 1 J J)];exact b,by rw[bD (ne 2 J J)];exact j,by rw[bD (ne 3 J J)];exact k,by rw[bD (ne 4 J J)];exact m,by rw[bD (ne 5 J J)];exact n⟩
def NW.home(N:NW g S c me w)(h:Home):NW (lI g (S.a 4) (S.a 5) c h) S c me ({ w.1 with home:=h },w.2):=by
 have I:=N.bH;obtain⟨d,k,m,n⟩:=N.bH;refine N.set ?_ λq b=>?_
 ·have ne:∀i j,i<6->j<6->i≠j->S.a i≠S.a j:=λi j hi o h e=>h (I.inj hi o e);refine⟨?_,?_,?_,n.alq h⟩
  ·unfold lI;rw[bD (ne 0 5 J J J),bD (ne 0 4 J J J)];exact d
  ·unfold lI;rw[bD (ne 1 5 J J J),bD (ne 1 4 J J J)];exact k
  ·unfold lI;rw[bD (ne 2 5 J J J),bD (ne 2 4 J J J)];exact m
 ·unfold lI;rw[bD (b 5 J),bD (b 4 J)]
def NW.trace(N:NW g S c me w)(l:List Evn):NW (upd g S.t (mP l)) S c me (w.1,w.2.1,l):=by
 refine⟨N.bH.ext λs b=>bD (N.ac8 s b),N.fab.same (bD N.tf.symm) (λq d=>bD (N.Y4 d).2.1.symm),aT,N.Xt,N.tf⟩
def NW.net(N:NW g S c me w){fab:Fab}(F:iD g' S.f S.P c fab)(b:fab.l.length=w.2.1.l.length)(O:Off (PE S.P w.2.1.l.length) g g'):NW g' S c me (w.1,fab,w.2.2):=by
 have d:∀i,i<6->¬PE S.P w.2.1.l.length (S.a i):=λi hi h=>(N.Y4 h).1 i hi rfl;refine⟨N.bH.ext λs e=>O _ (d s e),F,?_,by rw[b];exact N.Xt,N.tf⟩;rw[O _ λh=>(N.Y4 h).2.1 rfl];exact N.tr
def NW.sub(N:NW g S c me w)(h:uJ g g'):NW g' S c me w:=
 ⟨N.bH.ext λs d=>by obtain⟨l,b⟩:=N.bH.some d;rw[b,h _ _ b],N.fab.sub h,h _ _ N.tr,N.Xt,N.tf⟩
def Loc.sub(L:Loc b K g ls):uJ g (lay g ls):=λq cs h=>L.obj h
def Loc.home(L:Loc b K g ls){d t:Nat}{cs cs':List Cell}(m:g d=some cs)(n:g t=some cs'){h:Home}(G:Good b K' (lI (lay g ls) d t c h)):Loc b K' (lI g d t c h) ls:=by
 have j:=(L.at_ m).2;have k:=(L.at_ n).2;unfold lI at G ⊢;refine⟨by rw[OT k,OT j];exact G,λr i=>?_⟩;rw[bD (λe=>by subst e;exact i k),bD (λe=>by subst e;exact i j)];exact L.free r i
def Loc.net(L:Loc b K g ls){T:Nat->Prop}(j:∀q,T q->g q≠none){i:bF}(G:Good b K' i)(O:Off T (lay g ls) i):∃g',Loc b K' g' ls/\Off T g g'/\∀q,ls q=none->g' q=i q:=by
 let g':bF:=λq=>match ls q with
  |some _=>none
  |none=>i q
 have d:∀q,ls q=none->g' q=i q:=λq h=>by simp only[g',h]
 have e:lay g' ls=i:=by
  funext q
  cases h:ls q with
  |none=>simp only[lay,h];exact d q h
  |some xs=>
   have:¬T q:=λk=>j q k (L.free q (by rw[h];simp));rw[O q this];simp only[lay,h]
 refine⟨g',⟨by rw[e];exact G,λr m=>?_⟩,λq n=>?_,d⟩
 ·simp only[g'];cases h:ls r with
  |none=>exact absurd h m
  |some xs=>rfl
 ·cases h:ls q with
  |none=>rw[d q h,O q n];simp only[lay,h]
  |some xs=>
   simp only[g',h];rw[L.free q (by rw[h];simp)]
end
def NW.agree {g g':bF}{S:Ti}{c:Cfg}{me:Int}{w:NFT}(N:NW g S c me w)(h:∀q,ajv S w.2.1.l.length q∨q=S.f->g' q=g q):NW g' S c me w:=
 ⟨N.bH.ext λs b=>h _ (.inl (.inl ⟨s,b,rfl⟩)),N.fab.same (h _ (.inr rfl)) λq d=>h _ (.inl (.inr (.inl d))),by rw[h _ (.inl (.inr (.inr rfl)))];exact N.tr,N.Xt,N.tf⟩
def NW.here {g:bF}{S:Ti}{c:Cfg}{me:Int}{w:NFT}(N:NW g S c me w){q:Nat}(h:ajv S w.2.1.l.length q):g q≠none:=by
 rcases h with⟨i,hi,rfl⟩|d|rfl
 ·obtain⟨l,b⟩:=N.bH.some hi;rw[b];simp
 ·obtain⟨l,r,b⟩:=N.port d;rw[b];simp
 ·rw[N.tr];simp
def avf(b:Nat)(H:ah)(g:bF)(S:Ti)(c:Cfg)(me:Int)(k:Nat)(H':ah)(w':NFT):Prop:=
 ∃g',Good b H' g'/\NW g' S c me w'/\Off (ajv S k) g g'/\Step b H H'/\w'.2.1.l.length=k
structure Walk(b:Nat)(H:ah)(g0:bF)(S:Ti)(c:Cfg)(me:Int)(k:Nat)(K:ah)(g:bF)(ls:Lcl)(w:NFT):Prop where
 hb:H.base<=b
 loc:Loc b K g ls
 nw:NW g S c me w
 off:Off (ajv S k) g0 g
 step:Step b H K
 len:w.2.1.l.length=k
section
variable {b:Nat}{H:ah}{g0:bF}{S:Ti}{c:Cfg}{me:Int}{k:Nat}{K K':ah}{g:bF}{ls:Lcl}{w w':NFT}
def Walk.of {g:bF}(G:Good b H g)(hb:H.base<=b)(N:NW g S c me w):Walk b H g S c me w.2.1.l.length H g noL w:=⟨hb,Loc.of G,N,Off.refl _ _,Step.refl _ _,rfl⟩
def Walk.base(W:Walk b H g0 S c me k K g ls w):K.base<=b:=by rw[W.step.base];exact W.hb
def Walk.res(W:Walk b H g0 S c me k K g ls w):avf b H g0 S c me k K w:=⟨g,W.loc.out,W.nw,W.off,W.step,W.len⟩
def Walk.newL(W:Walk b H g0 S c me k K g ls w){ty:TypeId}{xs:List AV}{r:Nat}(hc:xs.all AV.aS=true)(hr:r=K.next)(ht:ty<gV:=by decide):Walk b H g0 S c me k (K.new (.blk 0 ty xs)) g (iH ls r xs) w:=
 ⟨W.hb,W.loc.newL hc hr ht,W.nw,W.off,W.step.trans (Step.new _ W.loc.good.1),W.len⟩
def Walk.whole(W:Walk b H g0 S c me k K g ls w){r n:Nat}{xs vs:List AV}(h:ls r=some xs)(d:xs.length=n)(e:vs.length=n)(i:0<n)(hv:vs.all AV.aS=true):
  ∃K',Proofs.YtgplhpgkompkmaaGreat.st n (.ref r 0 0) (.agg vs) K=some (aY,K')/\Proofs.YtgplhpgkompkmaaGreat.lda n (.ref r 0 0) K'=some (.agg vs,K')/\Walk b H g0 S c me k K' g (iH ls r vs) w:=by
 obtain⟨K',j,m,o,p⟩:=W.loc.whole W.base h d e i hv;exact⟨K',j,m,W.hb,o,W.nw,W.off,W.step.trans p,W.len⟩
def Walk.same(W:Walk b H g0 S c me k K g ls w)(G:Good b K' (lay g ls))(s:Step b K K'):Walk b H g0 S c me k K' g ls w:=⟨W.hb,⟨G,W.loc.free⟩,W.nw,W.off,W.step.trans s,W.len⟩
def Walk.aI(W:Walk b H g0 S c me k K g ls w){ca:Cache}(G:Good b K' (upd (lay g ls) (S.a 1) (dD ca)))(s:Step b K K'):Walk b H g0 S c me k K' (upd g (S.a 1) (dD ca)) ls ({ w.1 with aI:=ca },w.2):=
 ⟨W.hb,W.loc.call W.nw.bH.2.1 G,W.nw.aI ca,W.off.trans (Off.ar5 (Dv J)),W.step.trans s,W.len⟩
def Walk.dn(W:Walk b H g0 S c me k K g ls w){p:Proc}(G:Good b K' (upd (lay g ls) (S.a 2) (qU p)))(s:Step b K K'):Walk b H g0 S c me k K' (upd g (S.a 2) (qU p)) ls ({ w.1 with dn:=p },w.2):=
 ⟨W.hb,W.loc.call W.nw.bH.2.2.1 G,W.nw.dn p,W.off.trans (Off.ar5 (Dv J)),W.step.trans s,W.len⟩
def Walk.own(W:Walk b H g0 S c me k K g ls w){d:bU}{num:Int}(G:Good b K' (upd (lay g ls) (S.a 0) (yO S.a c me d num)))(s:Step b K K'):Walk b H g0 S c me k K' (upd g (S.a 0) (yO S.a c me d num)) ls ({ w.1 with aJ:=d,num:=num },w.2):=
 ⟨W.hb,W.loc.call W.nw.bH.1 G,W.nw.own d num,W.off.trans (Off.ar5 (Dv J)),W.step.trans s,W.len⟩
def Walk.home(W:Walk b H g0 S c me k K g ls w){h:Home}(G:Good b K' (lI (lay g ls) (S.a 4) (S.a 5) c h))(s:Step b K K'):Walk b H g0 S c me k K' (lI g (S.a 4) (S.a 5) c h) ls ({ w.1 with home:=h },w.2):=by
 obtain⟨j,e,i⟩:=W.nw.bH.2.2.2;refine⟨W.hb,W.loc.home e i G,W.nw.home h,W.off.trans (Off.ar5 λq d=>?_),W.step.trans s,W.len⟩;unfold lI;rw[bD (d 5 J),bD (d 4 J)]
def Walk.trace(W:Walk b H g0 S c me k K g ls w){l:List Evn}(G:Good b K' (upd (lay g ls) S.t (mP l)))(s:Step b K K'):Walk b H g0 S c me k K' (upd g S.t (mP l)) ls (w.1,w.2.1,l):=
 ⟨W.hb,W.loc.call W.nw.tr G,W.nw.trace l,W.off.trans (Off.upd (.inr (.inr rfl))),W.step.trans s,W.len⟩
def Walk.RN(W:Walk b H g0 S c me k K g ls w):NW (lay g ls) S c me w:=W.nw.sub W.loc.sub
def Walk.net(W:Walk b H g0 S c me k K g ls w){i:bF}{fab:Fab}(G:Good b K' i)(F:iD i S.f S.P c fab)(j:fab.l.length=w.2.1.l.length)(O:Off (PE S.P w.2.1.l.length) (lay g ls) i)(s:Step b K K'):∃g',Walk b H g0 S c me k K' g' ls (w.1,fab,w.2.2):=by
 obtain⟨g',L,m,h⟩:=W.loc.net (T:=PE S.P w.2.1.l.length) (λq d=>by obtain⟨l,r,e⟩:=W.nw.port d;rw[e];simp) G O;have n:∀{q cs},g q=some cs->ls q=none:=λe=>(W.loc.at_ e).2;have o:iD g' S.f S.P c fab:=F.same (h _ (n W.nw.fab.1)) λq d=>by
  rw[j]at d;obtain⟨l,r,e⟩:=W.nw.port d;exact h _ (n e)
 refine⟨g',W.hb,L,W.nw.net o j m,W.off.trans (m.mono λq d=>.inr (.inl (by rw[<-W.len];exact d))),W.step.trans s,by rw[<-W.len];exact j⟩
def Walk.app(W:Walk b H g0 S c me k K g ls w)(h:avf b K (lay g ls) S c me k K' w'):∃g',Walk b H g0 S c me k K' g' ls w':=by
 obtain⟨n,G,N,O,s,i⟩:=h;obtain⟨g',L,j,h⟩:=W.loc.net (T:=ajv S k) (λq d=>W.nw.here (by rw[W.len];exact d)) G O;have m:∀q,g q≠none->ls q=none:=λq d=>by
  cases e:ls q with
  |none=>rfl
  |some xs=>exact absurd (W.loc.free q (by rw[e];simp)) d
 refine⟨g',W.hb,L,N.agree λq d=>h q (m q ?_),W.off.trans j,W.step.trans s,i⟩;rcases d with d|rfl
 ·exact W.nw.here (by rw[W.len,<-i];exact d)
 ·rw[W.nw.fab.1];simp
end
section
variable {b:Nat}{H:ah}{g0:bF}{S:Ti}{c:Cfg}{me:Int}{k:Nat}{K K':ah}{g:bF}{ls:Lcl}{w w':NFT}
structure PSz(p:Proc):Prop where
 ops:p.ops.length<1000
 vals:p.bT.length<=p.ops.length
def Walk.ldN(W:Walk b H g0 S c me k K g ls w){i:Nat}{v:AV}(hi:(OD S.a c me w.1.aJ w.1.num)[i]?=some v):ld (.ref (S.a 0) 0 i) K=some (v,K):=
 W.loc.good.load (W.loc.obj W.nw.bH.1) (i:=i) (x:=v) (by rw[yO,zaw,hi];rfl)
def Walk.arh(W:Walk b H g0 S c me k K g ls w){i n:Nat}{ys:List AV}(hi:((OD S.a c me w.1.aJ w.1.num).drop i).take n=ys)(d:ys.length=n)(e:0<n):lda n (.ref (S.a 0) 0 i) K=some (.agg ys,K):=
 W.loc.good.loads (W.loc.obj W.nw.bH.1) (i:=i) (n:=n) (xs:=ys) (by rw[yO,<-hi,zcy,zdo]) d e
def Walk.cur(W:Walk b H g0 S c me k K g ls w)(d:PSz w.1.dn):∃K',cl 136 [.ref (S.a 2) 0 0] K=some (.tup [.agg w.1.dn.op.av,I w.1.dn.idx,B w.1.dn.cur.isSome],K')/\Walk b H g0 S c me k K' g ls w:=by
 obtain⟨K',e,h,i⟩:=alC W.loc.good W.base (W.loc.obj W.nw.bH.2.2.1) d.ops (by have:=d.vals;have:=d.ops;omega) d.vals;exact⟨K',e,W.same h i⟩
def Walk.pend(W:Walk b H g0 S c me k K g ls w)(d:PSz w.1.dn)(v:Int):∃r K' g',cl 187 [.ref (S.a 2) 0 0,I v] K=some (r,K')/\Walk b H g0 S c me k K' g' ls ({ w.1 with dn:=w.1.dn.CU v },w.2):=by
 obtain⟨r,K',e,h,i⟩:=alB W.loc.good W.base (W.loc.obj W.nw.bH.2.2.1) (by have:=d.vals;have:=d.ops;omega) v;exact⟨r,K',_,e,W.dn h i⟩
def Walk.tend(W:Walk b H g0 S c me k K g ls w)(d:w.2.2.length<1000000)(n i v:Int):∃K' g',cl 188 [.ref S.t 0 0,I n,I i,I v] K=some (.tup [],K')/\Walk b H g0 S c me k K' g' ls (w.1,w.2.1,w.2.2++[⟨n,i,true,v⟩]):=by
 obtain⟨K',e,h,j⟩:=afT W.loc.good W.base (W.loc.obj W.nw.tr) d n i v;exact⟨K',_,e,W.trace h j⟩
def Walk.ari(W:Walk b H g0 S c me k K g ls w)(d:w.2.2.length<1000000)(n i:Int):∃K' g',cl 147 [.ref S.t 0 0,I n,I i] K=some (.tup [],K')/\Walk b H g0 S c me k K' g' ls (w.1,w.2.1,w.2.2++[⟨n,i,false,0⟩]):=by
 obtain⟨K',e,h,j⟩:=Y1 W.loc.good W.base (W.loc.obj W.nw.tr) d n i;exact⟨K',_,e,W.trace h j⟩
def Walk.av6(W:Walk b H g0 S c me k K g ls w)(C:COk w.1.aI)(e:Ent){x:AV}(d:e.data.length<1000000000)(h:nH K x e.data):∃K' g',cl 191 [.ref (S.a 1) 0 0,.agg (e.avx x)] K=some (I (w.1.aI.put e).2,K')/\Walk b H g0 S c me k K' g' ls ({ w.1 with aI:=(w.1.aI.put e).1 },w.2):=by
 obtain⟨K',i,j,m⟩:=XA W.loc.good W.base (W.loc.obj W.nw.bH.2.1) C.len C.sets C.clk e d h;exact⟨K',_,i,W.aI j m⟩
def Walk.find(W:Walk b H g0 S c me k K g ls w)(C:COk w.1.aI)(ak:Int):cl 41 [.ref (S.a 1) 0 0,I ak] K=some (jG (w.1.aI.find ak),K):=
 nI W.loc.good (W.loc.obj W.nw.bH.2.1) C.len C.dat ak
def Walk.send(W:Walk b H g0 S c me k K g ls w)(F:FOk c w.2.1)(p:Pkt)(e:p.data.length<1000000000):∃K' g',cl 143 [.ref S.f 0 0,.agg p.av] K=some (I (w.2.1.send p).2,K')/\Walk b H g0 S c me k K' g' ls (w.1,(w.2.1.send p).1,w.2.2):=by
 obtain⟨K',q,h,i,j,m,n⟩:=als W.loc.good W.base W.RN.fab W.nw.Xt F p e;have d:(w.2.1.send p).1.l.length=w.2.1.l.length:=by
  unfold Fab.send;split
  ·rfl
  ·split
   ·rfl
   ·simp[Fab.put]
 obtain⟨g',o⟩:=W.net i j d m n;exact⟨K',g',h,o⟩
def ac9(W:Walk b H g0 S c me k K g ls w)(d:PSz w.1.dn)(o:w.2.2.length<1000000)(v:Int):
  ∃K' g',cl 137 [.ref (S.a 0) 0 0,.ref S.t 0 0,I v] K=some (.tup [],K')/\Walk b H g0 S c me k K' g' ls ((w.1.done me w.2.2 v).1,w.2.1,(w.1.done me w.2.2 v).2):=by
 have G:=W.loc.good;have e:=Walk.of G W.base W.RN;have p:=e.ldN (i:=1) (v:=.ref (S.a 2) 0 0) rfl;obtain⟨q,u,y⟩:=e.cur d;have z:=y.newL (ty:=61) (xs:=[zI,zI,zI]) (r:=q.next) rfl rfl;obtain⟨Q,A,R,h⟩:=z.whole aj (n:=3) (vs:=w.1.dn.op.av) rfl (eU _) (by decide) (oz _);have C:=h.ldN (i:=1) (v:=.ref (S.a 2) 0 0) rfl;obtain⟨r,T,X,D,j⟩:=h.pend d v;have E:=j.ldN (i:=10) (v:=I me) rfl;obtain⟨m,g5,F,L⟩:=j.tend o me w.1.dn.idx v;obtain⟨g',M⟩:=W.app (K':=m) (w':=((w.1.done me w.2.2 v).1,w.2.1,(w.1.done me w.2.2 v).2)) (by
  have:=L.res;rw[W.len]at this;exact this)
 refine⟨m,g',bn rfl rfl (ao3 _ _ _ _ _ ?_),M⟩;simp only[xq_,aic,p,u,A,C,D,E,F]
def Vh(W:Walk b H g0 S c me k K g ls w)(hc:c.ok=true)(F:FOk c w.2.1)(hd:w.1.aJ.data.length<1000000000):
  ∃K' g',cl 139 [.ref (S.a 0) 0 0,.ref S.f 0 0] K=some (.tup [],K')/\Walk b H g0 S c me k K' g' ls (w.1,w.1.amb c me w.2.1,w.2.2):=by
 have G:=W.loc.good;have d:=Walk.of G W.base W.RN;have j:=d.arh (i:=12) (n:=9) (ys:=w.1.aJ.av) rfl rfl J;have m:=d.ldN (i:=10) (v:=I me) rfl;have o:=d.arh (i:=2) (n:=8) (ys:=c.av) rfl rfl J;have p:=d.ldN (i:=13) (v:=I w.1.aJ.ak) rfl;have q:=xB K.guard c hc w.1.aJ.ak;have u:=ara K w.1.aJ me (c.aZ w.1.aJ.ak) hd;have e:(w.1.aJ.ask me (c.aZ w.1.aJ.ak)).data.length<1000000000:=by
  unfold bU.ask
  repeat' split
  all_goals first|exact hd|exact(show(0:Nat)<1000000000 by decide)
 obtain⟨h,C,y,z⟩:=d.send F (w.1.aJ.ask me (c.aZ w.1.aJ.ak)) e;obtain⟨g',A⟩:=W.app (K':=h) (w':=(w.1,w.1.amb c me w.2.1,w.2.2)) (by
  have:=z.res;rw[W.len]at this;exact this)
 refine⟨h,g',bn rfl rfl (ao6 _ _ _ _ ?_),A⟩;simp only[Nat.reduceAdd,xq_,aie,j,m,o,p,q,u,y]
end
def alD {n:Nat}{x v r:AV}{H H':ah}(h:st n x v H=some (r,H')):H'.next=H.next:=by
 unfold st at h;split at h
 ·split at h
  ·split at h
   ·cases h;rfl
   ·cases h
  ·cases h
 ·cases h
def is0(H:ah)(e:Ent)(w:Int):cl0 222 [.agg e.av,I w] H=some (B (decide (0<=w/\w<e.data.length)),H.new (.blk 0 100 e.av)):=by
 refine iR (ai8 _ _ _ _ ?_);have d:=λH=>(fH H e.data).lnS;by_cases b:0<=w
 ·simp only[Nat.reduceLT,xq_,hq_,QY,aC,Ent.av,b,d]
 ·simp only[Nat.reduceLT,xq_,hq_,QY,aC,Ent.av,b,false_and]
def arj(H:ah)(l:List Int)(h:l≠[])(hl:l.length<1000000000):cl0 36 [dat l] H=some (.sl (H.next+1) 0 0 1 l.length l.length false,(H.new (.blk 0 3 [])).new (.blk 0 (3+gV) (l.map I))):=by
 have h0:l.length≠0:=λe=>h (zaq e);have e2:=ug (e:=3) (by_:=8) (r:=H.next) (H:=H.new (.blk 0 3 [])) qA (fH _ l) (yt l) h0 (by unfold most;omega) (by unfold most;omega);simp only[eF]at e2;have e1:bi .eql 22 (dat l) zN=some (B false):=by rw[qH h];exact uh Tryz.underlying22
 refine iR (ae5 _ _ _ ?_);simp only[xq_,abe,e1,Nz,zD,e2,zbq,zaX]
section
variable {b:Nat}{H:ah}{g0:bF}{S:Ti}{c:Cfg}{me:Int}{k:Nat}{K K':ah}{g:bF}{ls:Lcl}{w w':NFT}
def Walk.new(W:Walk b H g0 S c me k K g ls w)(o:gB):Walk b H g0 S c me k (K.new o) g ls w:=⟨W.hb,W.loc.new o,W.nw,W.off,W.step.trans (Step.new _ W.loc.good.1),W.len⟩
def OX {args:List AV}{r:AV × ah}(h:cl0 190 args K=some r):cl 190 args K=some r:=zq (p:=cl0 190) rfl h
def Walk.write(W:Walk b H g0 S c me k K g ls w){r:Nat}{e:Ent}(h:ls r=some e.av)(he:e.data.length<1000000000)(i v:Int):
  ∃res K' x,cl 190 [.ref r 0 0,I i,I v] K=some (res,K')/\nH K' x (e.write i v).data/\Walk b H g0 S c me k K' g (iH ls r ((e.write i v).avx x)) w:=by
 have same:iH ls r e.av=ls:=by
  funext x;simp only[iH];split
  ·rename_i hx;rw[hx,h]
  ·rfl
 have hr:r<K.next:=W.loc.good.lt (pR h)
 have l4:=W.loc.ld h (i:=4) (v:=B e.bP) rfl;cases hd:e.bP with
 |false=>
  have hm:e.write i v=e:=by unfold Ent.write;rw[if_neg (by simp[hd])]
  rw[hm];rw[hd]at l4;refine⟨B false,K,dat e.data,OX (iR (abM _ _ _ _ _ ?_)),pX _ _,by
   have:e.avx (dat e.data)=e.av:=rfl;rw[this,same];exact W⟩
  simp only[xq_,Xc,l4,zai]
 |true=>
  rw[hd]at l4;have la:=W.loc.lda h (i:=0) (n:=6) (ys:=e.av) rfl rfl (by decide);have e1:=is0 K e i;have W1:=W.new (.blk 0 100 e.av);by_cases hi:0<=i/\i<e.data.length
  ·have hm:e.write i v={ e with data:=e.data.set i.toNat v }:=by unfold Ent.write;rw[if_pos ⟨hd,hi⟩]
   have hne:e.data≠[]:=λh0=>by rw[h0]at hi;simp at hi;omega
   have e2:=arj (K.new (.blk 0 100 e.av)) e.data hne he;simp only[eF]at e2;have l5:=W1.loc.ld h (i:=5) (v:=dat e.data) rfl;let y:AV:=.sl (K.next+1+1) 0 0 1 e.data.length e.data.length false;obtain⟨K3,u1,L3,s3⟩:=W.loc.st W.base h (i:=5) (v:=y) (by simp[Ent.av]) wU;have nx:=alD u1;let o1:gB:=.blk 0 100 e.av;let o2:gB:=.blk 0 3 [];let o3:gB:=.blk 0 (3+gV) (e.data.map I);have u2:st 1 (.ref r 0 5) y (((K.new o1).new o2).new o3)=some (aY,((K3.new o1).new o2).new o3):=by
    rw[QA (by rw[eF,eF];omega),QA (by rw[eF];omega),QA hr,u1];rfl
   have L4:=((L3.new o1).new o2).new o3;have l5':=L4.ld aj (i:=5) (v:=y) (by simp[Ent.av]);have hn2:((K3.new o1).new o2).next=K.next+1+1:=by rw[eF,eF,nx]
   have hs:aH (((K3.new o1).new o2).new o3) y 1 e.data.length (e.data.map I):=by
    have:=jX (e:=3+gV) (m:=1) (n:=e.data.length) (l:=e.data.map I) (H:=(K3.new o1).new o2) (ex:=false) (by simp);rw[hn2]at this;exact this
   have ex:=hs.ix (k:=.i64) (i:=i) hi.1 hi.2;have ep:eP y i.toNat=.ref (K.next+1+1) 0 i.toNat:=by simp[y,eP]
   rw[ep]at ex;have u3:st 1 (.ref (K.next+1+1) 0 i.toNat) (I v) (((K3.new o1).new o2).new o3)=some (aY,((K3.new o1).new o2).new (.blk 0 (3+gV) ((e.data.set i.toNat v).map I))):=by
    rw[uf hn2.symm];have hbK:((K3.new o1).new o2).base<=K.next+1+1:=by
     rw[jh,jh,s3.base];have:=W.base;have:=W.loc.good.1;omega
    have hset:aN (e.data.map I) i.toNat (I v).cells=(e.data.set i.toNat v).map I:=by
     rw[show(I v).cells=[I v]from rfl];have hlt:i.toNat<(e.data.map I).length:=by simp;omega
     unfold aN;rw[List.map_set,zdn,if_pos hlt];simp
    rw[hset,if_pos ⟨hbK,rfl,rfl,by rw[show(I v).cells=[I v]from rfl];simp only[zaz,zak,zan];omega⟩]
   refine⟨B true,((K3.new o1).new o2).new (.blk 0 (3+gV) ((e.data.set i.toNat v).map I)),y,OX (iR (abM _ _ _ _ _ ?_)),?_,?_⟩;rotate_left
   ·rw[hm];have:=jX (e:=3+gV) (m:=1) (n:=(e.data.set i.toNat v).length) (l:=(e.data.set i.toNat v).map I) (H:=(K3.new o1).new o2) (ex:=false) (by simp);rw[hn2]at this;rw[zcd]at this;refine⟨?_,wU,λh0=>?_⟩
    ·simp only[zcd];exact this
    ·have:=congrArg List.length h0;simp at this;exact absurd this hne
   ·rw[hm];have L5:=((L3.new o1).new o2).new (.blk 0 (3+gV) ((e.data.set i.toNat v).map I));have hx:(e.av.set 5 y)=({ e with data:=e.data.set i.toNat v }:Ent).avx y:=rfl;rw[hx]at L5;exact⟨W.hb,L5,W.nw,W.off,((((W.step.trans s3).trans (Step.new _ L3.good.1)).trans (Step.new _ (L3.new o1).good.1)).trans (Step.new _ ((L3.new o1).new o2).good.1)),W.len⟩
   ·simp only[o1,o2,o3,y]at u2 l5' ex u3;rw[decide_eq_true hi]at e1;simp only[xq_,Xc,l4,la,e1,zae,l5,e2,u2,l5',ex,u3];rfl
  ·have hm:e.write i v=e:=by unfold Ent.write;rw[if_neg (λh=>hi h.2)]
   rw[hm];refine⟨B false,_,dat e.data,OX (iR (abM _ _ _ _ _ ?_)),pX _ _,by
    have:e.avx (dat e.data)=e.av:=rfl;rw[this,same];exact W1⟩
   rw[decide_eq_false hi]at e1;simp only[xq_,Xc,l4,la,e1,zae,zai]
end
section
variable {b:Nat}{H:ah}{g0:bF}{S:Ti}{c:Cfg}{me:Int}{k:Nat}{K K':ah}{g:bF}{ls:Lcl}{w w':NFT}
def alE(W:Walk b H g0 S c me k K g ls w)(A:PSz w.1.dn)(C:COk w.1.aI)(D:w.2.2.length<1000000){r4 p:Nat}{o:Opn}{e:Ent}{x:AV}(E:ls r4=some o.av)(F:ls p=some (e.avx x))(G:e.data.length<1000000000)(L:nH K x e.data)(d:Int):
  ∃K' g',vK cl (.ref (S.a 0) 0 0) (.ref S.t 0 0) (.ref r4 0 0) (.ref p 0 0) (I d) K=some (.tup [],K')/\
   Walk b H g0 S c me k K' g' ls ((({ w.1 with aI:=(w.1.aI.put e).1 }:Node).done me w.2.2 (if o.aU=2 then 0 else d)).1,w.2.1,(({ w.1 with aI:=(w.1.aI.put e).1 }:Node).done me w.2.2 (if o.aU=2 then 0 else d)).2):=by
 have q:=W.ldN (i:=0) (v:=.ref (S.a 1) 0 0) rfl;have u:=W.loc.lda F (i:=0) (n:=6) (ys:=e.avx x) rfl rfl J;obtain⟨T,X,y,z⟩:=W.av6 C e G L;have m:=z.loc.ld E (i:=0) (v:=I o.aU) rfl;obtain⟨M,Q,h,R⟩:=ac9 z A D (if o.aU=2 then 0 else d);refine⟨M,Q,?_,R⟩;by_cases j:o.aU=2
 ·rw[j]at m;rw[if_pos j]at h;simp only[xq_,vK,Fg,q,u,y,m,h]
 ·rw[if_neg j]at h;simp only[xq_,vK,Fg,q,u,y,m,j,h]
def RP(W:Walk b H g0 S c me k K g ls w)(hc:c.ok=true)(hp:PSz w.1.dn)(C:COk w.1.aI)(hl:w.2.2.length<1000000):
  ∃K' g',cl 138 [.ref (S.a 0) 0 0,.ref S.t 0 0] K=some (.tup [],K')/\Walk b H g0 S c me k K' g' ls ((w.1.effect c me w.2.2).1,w.2.1,(w.1.effect c me w.2.2).2):=by
 have W0:=Walk.of W.loc.good W.base W.RN;obtain⟨o,ho⟩:∃o,w.1.dn.op=o:=⟨_,rfl⟩
 obtain⟨wi,hwi⟩:∃wi,c.dG o.addr=wi:=⟨_,rfl⟩
 obtain⟨e,hee⟩:∃e,(w.1.aI.find (c.bW o.addr)).getD .zero=e:=⟨_,rfl⟩
 have hed:e.data.length<1000000000:=by
  rw[<-hee];cases hf:w.1.aI.find (c.bW o.addr)with
  |none=>exact(show(0:Nat)<1000000000 by decide)
  |some e'=>exact C.dat e' (zbs hf)
 have l1:=W0.ldN (i:=1) (v:=.ref (S.a 2) 0 0) rfl;obtain⟨K1,a1,W1⟩:=W0.cur hp;have W2:=W1.newL (ty:=61) (xs:=[zI,zI,zI]) (r:=K1.next) rfl rfl;obtain⟨K3,b1,b2,W3⟩:=W2.whole aj (n:=3) (vs:=o.av) rfl (eU _) (by decide) (oz _);have lc:=W3.arh (i:=2) (n:=8) (ys:=c.av) rfl rfl (by decide);have k3:iH (iH noL K1.next [zI,zI,zI]) K1.next o.av K1.next=some o.av:=aj
 have la:=W3.loc.ld k3 (i:=1) (v:=I o.addr) rfl;have el:=I5 K3 c hc o.addr;rw[hwi]at el;have l0:=W3.ldN (i:=0) (v:=.ref (S.a 1) 0 0) rfl;have ef:=W3.find C (c.bW o.addr);simp only[jG]at ef;rw[hee]at ef;have n3:K1.next<K3.next:=W3.loc.good.lt (pR (g:=lay g ls) k3)
 have W4:=W3.newL (ty:=100) (xs:=[zI,zI,zI,zI,zB,zN]) (r:=K3.next) rfl rfl;obtain⟨K5,c1,c2,W5⟩:=W4.whole aj (n:=6) (vs:=e.av) rfl rfl (by decide) (jO e);have ew:=alb K5 e wi;have k9:iH (iH (iH (iH noL K1.next [zI,zI,zI]) K1.next o.av) K3.next [zI,zI,zI,zI,zB,zN]) K3.next e.av K3.next=some e.av:=aj
 have k4:iH (iH (iH (iH noL K1.next [zI,zI,zI]) K1.next o.av) K3.next [zI,zI,zI,zI,zB,zN]) K3.next e.av K1.next=some o.av:=by rw[aB (by omega),aB (by omega)];exact k3
 have lk:=W5.loc.ld k4 (i:=0) (v:=I o.aU) rfl;have lv:=W5.loc.ld k4 (i:=2) (v:=I o.value) rfl;have hm:w.1.effect c me w.2.2=({ w.1 with aI:=(w.1.aI.put (eX e o wi)).1 }:Node).done me w.2.2 (if o.aU=2 then 0 else e.word wi):=by
  simp only[Node.effect,ho,hee,hwi]
 rw[ho]at a1
 -- a word is written,or none
 have key:∀{K6:ah} {ls6:Lcl} {x:AV},Walk b K (lay g ls) S c me w.2.1.l.length K6 (lay g ls) ls6 w->ls6 K1.next=some o.av->ls6 K3.next=some ((eX e o wi).avx x)->nH K6 x (eX e o wi).data->
   ∃K' g',vK cl (.ref (S.a 0) 0 0) (.ref S.t 0 0) (.ref K1.next 0 0) (.ref K3.next 0 0) (I (e.word wi)) K6=some (.tup [],K')/\Walk b H g0 S c me k K' g' ls ((w.1.effect c me w.2.2).1,w.2.1,(w.1.effect c me w.2.2).2):=by
  intro K6 ls6 x W6 h4 h9 hx;obtain⟨K7,g7,r1,W7⟩:=alE W6 hp C hl h4 h9 (by rw[(qM e o wi).2.2.2];exact hed) hx (e.word wi);rw[<-hm]at W7;obtain⟨g',W'⟩:=W.app (K':=K7) (w':=((w.1.effect c me w.2.2).1,w.2.1,(w.1.effect c me w.2.2).2)) (by
   have:=W7.res;rw[W.len]at this;exact this)
  exact⟨K7,g',r1,W'⟩
 by_cases h2:o.aU=2
 ·obtain⟨res,K6,x,d1,hx,W6⟩:=W5.write k9 hed wi o.value;have he:eX e o wi=e.write wi o.value:=by unfold eX;rw[if_pos h2]
  obtain⟨K7,g',r1,W'⟩:=key W6 (by rw[aB (by omega)];exact k4) (by rw[aj,he]) (by rw[he];exact hx);refine⟨K7,g',bn rfl rfl (abw _ _ _ _ ?_),W'⟩;rw[h2]at lk;simp only[Int.reduceEq,xq_,WO,l1,a1,b1,lc,la,el,l0,ef,c1,c2,ew,lk,lv,d1,r1]
 ·by_cases h3:o.aU=3
  ·obtain⟨res,K6,x,d1,hx,W6⟩:=W5.write k9 hed wi (w64 (e.word wi+o.value));have he:eX e o wi=e.write wi (w64 (e.word wi+o.value)):=by unfold eX;rw[if_neg h2,if_pos h3]
   obtain⟨K7,g',r1,W'⟩:=key W6 (by rw[aB (by omega)];exact k4) (by rw[aj,he]) (by rw[he];exact hx);refine⟨K7,g',bn rfl rfl (abw _ _ _ _ ?_),W'⟩;rw[h3]at lk;simp only[w64]at d1;simp only[Int.reduceEq,xq_,WO,l1,a1,b1,lc,la,el,l0,ef,c1,c2,ew,lk,lv,bI,d1,r1]
  ·have he:eX e o wi=e:=by unfold eX;rw[if_neg h2,if_neg h3]
   obtain⟨K7,g',r1,W'⟩:=key (x:=dat e.data) W5 k4 (by rw[he];exact k9) (by rw[he];exact pX _ _);refine⟨K7,g',bn rfl rfl (abw _ _ _ _ ?_),W'⟩;simp only[xq_,WO,l1,a1,b1,lc,la,el,l0,ef,c1,c2,ew,lk,h2,h3,r1]
def afW(W:Walk b H g0 S c me k K g ls w)(C:COk w.1.aI)(hd:w.1.aJ.data.length<1000000000)(p:Pkt)(hpl:p.data.length<1000000000):
  ∃K' g',cl 135 [.ref (S.a 0) 0 0,.agg p.av] K=some (uK (w.1.after me p),K')/\Walk b H g0 S c me k K' g' ls ({ w.1 with aI:=(w.1.after me p).1 },w.2):=by
 have W0:=Walk.of W.loc.good W.base W.RN;have W1:=W0.newL (ty:=81) (xs:=p.av) (r:=K.next) (aW p) rfl;have W2:=W1.newL (ty:=73) (xs:=zD9) (r:=K.next+1) rfl (by rw[eF]);have k3:iH (iH noL K.next p.av) (K.next+1) zD9 K.next=some p.av:=by rw[aB (by omega),aj]
 have lk:=W2.ldN (i:=12) (v:=I w.1.aJ.aU) rfl;have ld:=W2.arh (i:=12) (n:=9) (ys:=w.1.aJ.av) rfl rfl (by decide);have li:=W2.ldN (i:=10) (v:=I me) rfl;have lc:=W2.ldN (i:=0) (v:=.ref (S.a 1) 0 0) rfl;have lp:=W2.loc.lda k3 (i:=0) (n:=9) (ys:=p.av) rfl rfl (by decide);have hcache:=W2.loc.obj W2.nw.bH.2.1
 -- the end
 have fin:∀{K3:ah} {r:Nxt},Good b K3 (upd (lay (lay g ls) (iH (iH noL K.next p.av) (K.next+1) zD9)) (S.a 1) (dD r.1))->Step b ((K.new (.blk 0 81 p.av)).new (.blk 0 73 zD9)) K3->w.1.after me p=r->
   ∃K' g',st 9 (.ref (K.next+1) 0 0) (.agg r.2.1.av) K3=some (aY,K')/\lda 9 (.ref (K.next+1) 0 0) K'=some (.agg r.2.1.av,K')/\Walk b H g0 S c me k K' g' ls ({ w.1 with aI:=(w.1.after me p).1 },w.2):=by
  intro K3 r G s hr;have W3:=W2.aI G s;obtain⟨K4,u1,u2,W4⟩:=W3.whole (r:=K.next+1) (xs:=zD9) aj (n:=9) (vs:=r.2.1.av) rfl rfl (by decide) (bG _);obtain⟨g',W'⟩:=W.app (K':=K4) (w':=({ w.1 with aI:=(w.1.after me p).1 },w.2)) (by
   have:=W4.res;rw[W.len]at this;rw[hr];exact this)
  exact⟨K4,g',u1,u2,W'⟩
 by_cases h1:w.1.aJ.aU=1
 ·have hm:w.1.after me p=dX w.1.aJ me w.1.aI p:=by unfold Node.after;rw[if_pos h1]
  obtain⟨K3,a1,a2,a3⟩:=ac3 W2.loc.good W2.base hcache C w.1.aJ me p hpl;obtain⟨K4,g',u1,u2,W'⟩:=fin a2 a3 hm;refine⟨K4,g',bn rfl rfl (WM _ _ _ _ ?_),W'⟩;rw[h1]at lk;rw[hm];simp only[uK]at a1 ⊢;simp only[Nat.reduceLT,Int.reduceEq,xq_,QT,aC (aW p),lk,ld,li,lc,lp,a1,u1,u2]
 ·by_cases h2:w.1.aJ.aU=2
  ·have hm:w.1.after me p=dZ w.1.aJ me w.1.aI p:=by unfold Node.after;rw[if_neg h1,if_pos h2]
   obtain⟨K3,a1,a2,a3⟩:=afS W2.loc.good W2.base hcache C w.1.aJ me p hd hpl;obtain⟨K4,g',u1,u2,W'⟩:=fin a2 a3 hm;refine⟨K4,g',bn rfl rfl (WM _ _ _ _ ?_),W'⟩;rw[h2]at lk;rw[hm];simp only[uK]at a1 ⊢;simp only[Nat.reduceLT,Int.reduceEq,xq_,QT,aC (aW p),lk,ld,li,lc,lp,a1,u1,u2]
  ·by_cases h3:w.1.aJ.aU=3
   ·have hm:w.1.after me p=eG w.1.aJ w.1.aI p:=by unfold Node.after;rw[if_neg h1,if_neg h2,if_pos h3]
    obtain⟨K3,a1,a2,a3⟩:=alA W2.loc.good W2.base hcache C w.1.aJ p me;obtain⟨K4,g',u1,u2,W'⟩:=fin a2 a3 hm;refine⟨K4,g',bn rfl rfl (WM _ _ _ _ ?_),W'⟩;rw[h3]at lk;rw[hm];simp only[uK]at a1 ⊢;simp only[Nat.reduceLT,Int.reduceEq,xq_,QT,aC (aW p),lk,ld,li,lc,lp,a1,u1,u2]
   ·have hm:w.1.after me p=yK w.1.aI:=by unfold Node.after;rw[if_neg h1,if_neg h2,if_neg h3]
    obtain⟨K4,g',u1,u2,W'⟩:=fin (r:=yK w.1.aI) (by rw[show(yK w.1.aI).1=w.1.aI from rfl,fO hcache];exact W2.loc.good) (Step.refl _ _) hm;refine⟨K4,g',bn rfl rfl (WM _ _ _ _ ?_),W'⟩;rw[hm];have ez:bd 73 []=some (.agg zD9):=by simp only[xq_,aaA,jg,dY]
    have hz:(yK w.1.aI).2.1.av=zD9:=lU;rw[hz]at u1 u2;simp only[uK,hz];simp only[Nat.reduceLT,xq_,QT,aC (aW p),lk,h1,h2,h3,ez,u1,u2];rfl
end
def Node.evs(n:Node):Nat:=2*n.dn.bT.length+(if n.dn.fU then 1 else 0)
def ada {c:Cfg}{d:bU}(h:d.data=[]∨pG c d.data)(me home:Int):(d.ask me home).ok=true->yL c (d.ask me home):=by
 intro hk;have num:∀v∈d.data,I64 v:=by
  rcases h with h|h
  ·rw[h];intro v hv;cases hv
  ·exact h.2
 refine⟨hk,?_,?_⟩
 ·unfold bU.ask
  repeat' split
  all_goals (simp[Pkt.zero])
 ·unfold bU.ask
  repeat' split
  all_goals first|exact num|(intro v hv;cases hv)
def yx {c:Cfg}{p:Pkt}(hd:p.data=[])(hk:¬(p.aU=7∨p.aU=9)):p.ok=true->yL c p:=λh=>⟨h,λe=>absurd e hk,by rw[hd];intro v hv;cases hv⟩
def afX {c:Cfg}{dR:Rows}(b:∀e∈dR,pG c e.2.data){ak state head:Int}{data:List Int}(hd:∀v∈data,I64 v):∀e∈(jy c dR ak state head data).1,pG c e.2.data:=by
 unfold jy;cases ha:jY dR ak with
 |none=>exact b
 |some r=>
  simp only;split
  ·exact b
  ·split
   ·exact b
   ·rename_i i g;intro e d;rcases rJ d with rfl|d
    ·simp only;split
     ·exact b _ (rH ha)
     ·rename_i h;simp only[zbu,zah,decide_eq_true_eq,not_or,not_and,Decidable.not_not]at g;exact⟨g.2 h,hd⟩
    ·exact b e d
def Vj {c:Cfg}{me:Int}{h:Home}(b:∀e∈h.dR,pG c e.2.data){p:Pkt}(hd:∀v∈p.data,I64 v):∀e∈(h.handle c me p).1.dR,pG c e.2.data:=by
 unfold Home.handle;split
 ·exact b
 split
 ·exact b
 split
 ·simp only;split <;> exact b
 ·have key:∀e∈(h.unlock c p).1.dR,pG c e.2.data:=by
   unfold Home.unlock;have d:∀v∈(if p.flag=true then p.data else []),I64 v:=by
    split
    ·exact hd
    ·intro v hv;cases hv
   generalize (if p.flag=true then p.data else [])=dat at d ⊢;split
   ·exact b
   ·simp only;split
    ·exact afX b d
    ·exact b
  simp only;split <;> exact key
def adb {c:Cfg}{ca:Cache}(I:EZ c ca)(p:Pkt):EZ c (fP ca p).1/\((fP ca p).2.1.ok=true->yL c (fP ca p).2.1)/\(fP ca p).1.dM=ca.dM/\∀(ak:Int),c.ok=true->ca.full ak=false->(fP ca p).1.full ak=false:=by
 unfold fP;have z:Pkt.zero.ok=true->yL c Pkt.zero:=yx rfl (by simp[Pkt.zero]);split
 ·exact⟨I,z,rfl,λ_ _ h=>h⟩
 rename_i j;cases i:ca.find p.ak with
 |none=>exact⟨I,z,rfl,λ_ _ h=>h⟩
 |some e=>
  obtain⟨m,n⟩:=(jm I.aO).1 i;have E:=I.ent e m;simp only[zbu,zbj,not_or,zcW,decide_eq_true_eq]at j;have put:∀b:Ent,b.ak=e.ak->b.data=e.data->EZ c (ca.put b).1/\(ca.put b).1.dM=ca.dM/\∀ak,ca.full ak=false->(ca.put b).1.full ak=false:=λb d o=>by
   have g:ca.find b.ak=some e:=by rw[d,n];exact i
   refine⟨I.put (by rw[d];exact E.lo) (by rw[d];exact E.hi) (by rw[o];exact E.dat),by rw[nG I.aO (by rw[d];exact E.lo) g],λak h=>?_⟩;rw[aeV I.aO (by rw[d];exact E.lo) g];exact h
  simp only;split
  ·rename_i k;have u:=put { e with bP:=false,back:=p.ptr } rfl rfl;exact⟨u.1,λh=>⟨h,λ_=>E.dat,E.dat.2⟩,u.2.1,λl _ h=>u.2.2 l h⟩
  split
  ·rename_i k;have u:=put { e with fwd:=p.ptr } rfl rfl;exact⟨u.1,yx rfl (by simp only[k];decide),u.2.1,λl _ h=>u.2.2 l h⟩
  split
  ·rename_i k;have u:=put { e with back:=p.ptr } rfl rfl;exact⟨u.1,yx rfl (by simp only[k];decide),u.2.1,λl _ h=>u.2.2 l h⟩
  ·exact⟨I.drop _,λh=>⟨h,λ_=>E.dat,E.dat.2⟩,Du _ _,λl hc h=>aaV hc I h⟩
end
end Go.Proofs.YtgplhpgkompkmaaGreat
