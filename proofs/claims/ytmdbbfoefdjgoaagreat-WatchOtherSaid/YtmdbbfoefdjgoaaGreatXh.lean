/-
  Own work: an interpreter over named blocks, its soundness, and what the functions of this seat compute (part 8 of 11).
  Conditions: those of the statement alone.
-/
import Derived.Shelf.SlGeneric
import Derived.Ground.SlgmProg
import Derived.Ground.GgzProg
import Derived.Shelf.SortM.SortNone
import Derived.Shelf.SortM.Plain
import Derived.Shelf.SlIterI.Nil
import Derived.Test.YtmdbbfoefdjgoaaGreatProg
import Derived.KernelRfl
import Derived.Test.YtmdbbfoefdjgoaaGreatXg
set_option linter.all false
set_option linter.unusedSectionVars false
set_option linter.unusedVariables false
set_option linter.unusedSimpArgs false
namespace Go.Proofs
open Go.Shelf
def Tryz.sortedA_ren:Go.Shelf.Ren:=⟨fun | 6=> 60 | 8=> 106 | 9=> 107 | 11=> 151 | 13=> 153 | 12=> 152 | 23=> 188 | 24=> 189 | 14=> 179 | 15=> 180 | 16=> 181 | 17=> 182 | 18=> 183 | 19=> 184 | 20=> 185 | 21=> 186 | 22=> 187 | 25=> 199 | 26=> 200 | 27=> 201 | 28=> 202 | 29=> 203 | 30=> 204 | 31=> 206 | n=> n,fun | 26=> 3 | 28=> 125 | 24=> 22 | 0=> 0 | 3=> 3 | 37=> 205 | 48=> 216 | 50=> 242 | 4=> 4 | 40=> 255 | 39=> 254 | 45=> 181 | 5=> 5 | 9=> 9 | 51=> 269 | 55=> 273 | 57=> 275 | 58=> 142 | 33=> 39 | n=> n,fun | n=> n⟩
theorem Tryz.sortedA:Go.Proofs.SlLaysZI.n6 Tryz.prog Tryz.sortedA_ren:={
 mixed:=by kernel_rfl
 f6:=⟨Tryz.f60.name,by decide,Tryz.func60.trans (congrArg some (by kernel_rfl))⟩
 f8:=⟨Tryz.f106.name,by decide,Tryz.func106.trans (congrArg some (by kernel_rfl))⟩
 f11:=⟨Tryz.f151.name,by decide,Tryz.func151.trans (congrArg some (by kernel_rfl))⟩
 t0:=Tryz.underlying0
 a0:=Tryz.isAgg0
 z0:=Tryz.sizeOf0
 v0:=Tryz.zeroValue0
 t24:=Tryz.underlying22
 a24:=Tryz.isAgg22
 z24:=Tryz.sizeOf22
 v24:=Tryz.zeroValue22
 t26:=Tryz.underlying3
 a26:=Tryz.isAgg3
 z26:=Tryz.sizeOf3
 v26:=Tryz.zeroValue3
 t28:=Tryz.underlying125
 a28:=Tryz.isAgg125
 z28:=Tryz.sizeOf125
 v28:=Tryz.zeroValue125
 i26:=by kernel_rfl }
def Tryz.keysA_ren:Go.Shelf.Ren:=⟨fun | 7=> 169 | 10=> 195 | n=> n,fun | 23=> 202 | 26=> 3 | 3=> 249 | 28=> 125 | 0=> 0 | 27=> 124 | 33=> 39 | 4=> 4 | n=> n,fun | n=> n⟩
theorem Tryz.keysA:Go.Proofs.SlLaysZI.n7 Tryz.prog Tryz.keysA_ren:={
 mixed:=by kernel_rfl
 f7:=⟨Tryz.f169.name,by decide,Tryz.func169.trans (congrArg some (by kernel_rfl))⟩
 f10:=⟨Tryz.f195.name,by decide,Tryz.func195.trans (congrArg some (by kernel_rfl))⟩
 t0:=Tryz.underlying0
 a0:=Tryz.isAgg0
 z0:=Tryz.sizeOf0
 v0:=Tryz.zeroValue0
 t4:=Tryz.underlying4
 a4:=Tryz.isAgg4
 z4:=Tryz.sizeOf4
 v4:=Tryz.zeroValue4
 t23:=Tryz.underlying202
 a23:=Tryz.isAgg202
 z23:=Tryz.sizeOf202
 v23:=Tryz.zeroValue202
 t26:=Tryz.underlying3
 a26:=Tryz.isAgg3
 z26:=Tryz.sizeOf3
 v26:=Tryz.zeroValue3
 t27:=Tryz.underlying124
 a27:=Tryz.isAgg124
 z27:=Tryz.sizeOf124
 v27:=Tryz.zeroValue124
 t28:=Tryz.underlying125
 a28:=Tryz.isAgg125
 z28:=Tryz.sizeOf125
 v28:=Tryz.zeroValue125
 t33:=Tryz.underlying39
 a33:=Tryz.isAgg39
 z33:=Tryz.sizeOf39
 v33:=Tryz.zeroValue39 }
def Tryz.sortA_ren:Go.Shelf.Ren:=⟨fun | 5=> 107 | 8=> 153 | 7=> 152 | 19=> 188 | 20=> 189 | 10=> 179 | 11=> 180 | 12=> 181 | 13=> 182 | 14=> 183 | 15=> 184 | 16=> 185 | 17=> 186 | 18=> 187 | 30=> 199 | 31=> 200 | 32=> 201 | 33=> 202 | 34=> 203 | 35=> 204 | 40=> 206 | n=> n,fun | 23=> 22 | 25=> 3 | 3=> 3 | 32=> 205 | 22=> 22 | 0=> 0 | 44=> 216 | 46=> 242 | 4=> 4 | 36=> 255 | 35=> 254 | 41=> 181 | 5=> 5 | 9=> 9 | 53=> 269 | 57=> 273 | 63=> 275 | 64=> 142 | n=> n,fun | n=> n⟩
theorem Tryz.sortA:Go.Proofs.SlLaysM.n5 Tryz.prog Tryz.sortA_ren:={
 mixed:=by kernel_rfl
 f5:=⟨Tryz.f107.name,by decide,Tryz.func107.trans (congrArg some (by kernel_rfl))⟩
 f7:=⟨Tryz.f152.name,by decide,Tryz.func152.trans (congrArg some (by kernel_rfl))⟩
 f8:=Tryz.func153.trans (congrArg some (by kernel_rfl))
 f10:=⟨Tryz.f179.name,by decide,Tryz.func179.trans (congrArg some (by kernel_rfl))⟩
 f11:=⟨Tryz.f180.name,by decide,Tryz.func180.trans (congrArg some (by kernel_rfl))⟩
 f12:=⟨Tryz.f181.name,by decide,Tryz.func181.trans (congrArg some (by kernel_rfl))⟩
 f13:=⟨Tryz.f182.name,by decide,Tryz.func182.trans (congrArg some (by kernel_rfl))⟩
 f14:=⟨Tryz.f183.name,by decide,Tryz.func183.trans (congrArg some (by kernel_rfl))⟩
 f15:=⟨Tryz.f184.name,by decide,Tryz.func184.trans (congrArg some (by kernel_rfl))⟩
 f16:=⟨Tryz.f185.name,by decide,Tryz.func185.trans (congrArg some (by kernel_rfl))⟩
 f17:=⟨Tryz.f186.name,by decide,Tryz.func186.trans (congrArg some (by kernel_rfl))⟩
 f18:=⟨Tryz.f187.name,by decide,Tryz.func187.trans (congrArg some (by kernel_rfl))⟩
 f19:=Tryz.func188.trans (congrArg some (by kernel_rfl))
 f20:=Tryz.func189.trans (congrArg some (by kernel_rfl))
 f30:=⟨Tryz.f199.name,by decide,Tryz.func199.trans (congrArg some (by kernel_rfl))⟩
 f31:=Tryz.func200.trans (congrArg some (by kernel_rfl))
 f32:=Tryz.func201.trans (congrArg some (by kernel_rfl))
 f33:=⟨Tryz.f202.name,by decide,Tryz.func202.trans (congrArg some (by kernel_rfl))⟩
 f34:=⟨Tryz.f203.name,by decide,Tryz.func203.trans (congrArg some (by kernel_rfl))⟩
 f35:=⟨Tryz.f204.name,by decide,Tryz.func204.trans (congrArg some (by kernel_rfl))⟩
 f40:=⟨Tryz.f206.name,by decide,Tryz.func206.trans (congrArg some (by kernel_rfl))⟩
 t0:=Tryz.underlying0
 a0:=Tryz.isAgg0
 z0:=Tryz.sizeOf0
 v0:=Tryz.zeroValue0
 t3:=Tryz.underlying3
 a3:=Tryz.isAgg3
 z3:=Tryz.sizeOf3
 v3:=Tryz.zeroValue3
 t4:=Tryz.underlying4
 a4:=Tryz.isAgg4
 z4:=Tryz.sizeOf4
 v4:=Tryz.zeroValue4
 t5:=Tryz.underlying5
 a5:=Tryz.isAgg5
 z5:=Tryz.sizeOf5
 v5:=Tryz.zeroValue5
 t9:=Tryz.underlying9
 a9:=Tryz.isAgg9
 z9:=Tryz.sizeOf9
 v9:=Tryz.zeroValue9
 t22:=Tryz.underlying22
 a22:=Tryz.isAgg22
 z22:=Tryz.sizeOf22
 v22:=Tryz.zeroValue22
 t23:=Tryz.underlying22
 a23:=Tryz.isAgg22
 z23:=Tryz.sizeOf22
 v23:=Tryz.zeroValue22
 t25:=Tryz.underlying3
 a25:=Tryz.isAgg3
 z25:=Tryz.sizeOf3
 v25:=Tryz.zeroValue3
 t32:=Tryz.underlying205
 a32:=Tryz.isAgg205
 z32:=Tryz.sizeOf205
 v32:=Tryz.zeroValue205
 t35:=Tryz.underlying254
 a35:=Tryz.isAgg254
 z35:=Tryz.sizeOf254
 v35:=Tryz.zeroValue254
 t36:=Tryz.underlying255
 a36:=Tryz.isAgg255
 z36:=Tryz.sizeOf255
 v36:=Tryz.zeroValue255
 t41:=Tryz.underlying181
 a41:=Tryz.isAgg181
 z41:=Tryz.sizeOf181
 v41:=Tryz.zeroValue181
 t44:=Tryz.underlying216
 a44:=Tryz.isAgg216
 z44:=Tryz.sizeOf216
 v44:=Tryz.zeroValue216
 t46:=Tryz.underlying242
 a46:=Tryz.isAgg242
 z46:=Tryz.sizeOf242
 v46:=Tryz.zeroValue242
 t53:=Tryz.underlying269
 a53:=Tryz.isAgg269
 z53:=Tryz.sizeOf269
 v53:=Tryz.zeroValue269
 t57:=Tryz.underlying273
 a57:=Tryz.isAgg273
 z57:=Tryz.sizeOf273
 v57:=Tryz.zeroValue273
 t63:=Tryz.underlying275
 a63:=Tryz.isAgg275
 z63:=Tryz.sizeOf275
 v63:=Tryz.zeroValue275
 t64:=Tryz.underlying142
 a64:=Tryz.isAgg142
 z64:=Tryz.sizeOf142
 v64:=Tryz.zeroValue142 }
end Go.Proofs
namespace Go.Proofs.YtmdbbfoefdjgoaaGreat
noncomputable section
open Go.RowKit Go.Maps Go.Sort Go.Shelf
def Tv {α:Type}(F:Fence)(n:Nat)(P:Program)(g:Nat)(lb:Array Value)(enc:α->Value)(S:List α->Prop)(N:Nat)(w:World):Prop:=
 ∀(l:Nat) (J:List α->World->Prop) (W:World),Below w.heap.size w W->AbidesFrom W.heap.size J->(∀pre W',J pre W'->Below w.heap.size w W')->
  (∀pre x W1,J pre W1->pre.length < N->YieldAt F (n - 1) P l #[enc x] W1 λe W'=> e=.returned (.bool true)/\J (pre++[x]) W'/\KeepsWalks W1 W')->
  J [] W->CallsIn F n P g (#[.func (.yield l) #[] #[]]++lb) W λe W'=> (∃v,e=.returned v)/\∃xs,S xs/\J xs W'
section
variable {P:Program}{ρ:Go.Shelf.Ren}
set_option maxRecDepth 100000 in
set_option maxHeartbeats 2000000 in
theorem U4(L:SlLaysZI.n11 P ρ)(F:Fence)(n:Nat)(h11:F.fn (ρ.f 11))(hro:F.round=none)(hn:2<=n)(g:Nat)(lb:Array Value)(hFg:F.fn g)(eg:∀args w,(callFunc g args).run P w=.ok (.enter g args) w)
  (S:List Int->Prop) (N:Nat) (hN:N<=maxLen) (hNb:N*8<=140737488355328) (w:World) (hseq:Tv F (n - 1) P g lb encZ S N w):
  CallsIn F n P (ρ.f 11) #[.slice none 0 0,.func (.func g) #[] lb] w λe w'=>∃(v:Value) (ss:List Int),e=.returned v/\S ss/\w'.ownsRow w.heap.size (ρ.t 26) 1 v ss.length (ss.map encZ)/\(v=.slice none 0 0↔ss=[])/\Below w.heap.size w w':=by
 have h1:1<=n:=by omega
 have mixed:=L.mixed;have t0:=L.t0;have a0:=L.a0;have z0:=L.z0;have v0:=L.v0;have t24:=L.t24;have a24:=L.a24;have z24:=L.z24;have v24:=L.v24;have t26:=L.t26;have a26:=L.a26;have z26:=L.z26;have v26:=L.v26;have t28:=L.t28;have a28:=L.a28;have z28:=L.z28;have v28:=L.v28;have u0:=run_underlying L.t0;have u24:=run_underlying L.t24;have u26:=run_underlying L.t26;have u28:=run_underlying L.t28;have hne:ρ.t 24≠ρ.t 26:=λe=> by have h:=L.t24;rw [e,L.t26] at h;cases h
 obtain⟨_,_,FG⟩:=L.f11;refine callsIn_of_wp_marks FG rfl h11 ?_ hro;simp only [SlBodyZ.n11_ntmps ρ,zb0,zah,zam,Nat.reduceAdd,Nat.reduceSub,zbX,zbY,zck,zb6,zaU,zbc]
 gi_wp2
 refine wpIn_rangeFunc ?_;intro fn hfn;rw [hro];obtain⟨W0,hW0⟩:∃W0,w.alloc (.cells #[.slice none 0 0] (ρ.t 24))=W0:=⟨_,rfl⟩
 have hs0:W0.heap.size=w.heap.size+1:=by rw [<-hW0];simp
 have hv0:W0.heap[w.heap.size]?=some (.cells #[.slice none 0 0] (ρ.t 24) (0,0)):=by rw [<-hW0];exact World.alloc_heap_new w _
 have hb0:Below w.heap.size w W0:=by rw [<-hW0];exact(Below.refl _ w).alloc (zac _) _
 rw [hW0];obtain⟨W1,hW1⟩:∃W1,(W0.alloc (.deferred (some []))).alloc (.loop (AnyZI.apRec ρ fn (.func (.func g) #[] lb) w.heap.size W0.heap.size .ready none))=W1:=⟨_,rfl⟩
 have hold:∀k,k < W0.heap.size->W1.heap[k]?=W0.heap[k]?:=λk hk=> by
  rw [<-hW1];exact(Below.heap_alloc _ _ k (by simp;omega)).trans (Below.heap_alloc _ _ k hk)
 have hb1:Below w.heap.size w W1:=by rw [<-hW1];exact(hb0.alloc hb0.size _).alloc (by have:=hb0.size;simp;omega) _
 have hs1:W1.heap.size=W0.heap.size+2:=by rw [<-hW1];simp
 have hM:AnyZI.ApAt ρ w fn (.func (.func g) #[] lb) w.heap.size (W0.heap.size+1) W0.heap.size [] W1:=
  ⟨⟨_,(hold w.heap.size (by omega)).trans hv0,⟨rfl,.inl ⟨rfl,rfl⟩⟩,by simp⟩,
   by rw [<-hW1];have:=World.alloc_heap_new (W0.alloc (.deferred (some []))) (.loop (AnyZI.apRec ρ fn (.func (.func g) #[] lb) w.heap.size W0.heap.size .ready none));rwa [World.size_alloc] at this,
   by rw [<-hW1];exact(Below.heap_alloc _ _ _ (by simp)).trans (World.alloc_heap_new W0 _),hb1⟩
 refine⟨W0.heap.size+1,[{ target:=.collected W0.heap.size,args:=#[] }],W1,{ target:=.fn (.func g) lb,args:=#[.func (.yield (W0.heap.size+1)) #[] #[]] },W1,g,
  #[.func (.yield (W0.heap.size+1)) #[] #[]]++lb,W1,?_,?_,?_,?_,λ_=> h1,?_⟩
 ·rw [<-hW1];exact run_enterLoop_outer _ _ _ _ _
 ·simp [resolve,go_sem]
 ·intro f' hf';simp [Target.leads] at hf';subst hf';exact hFg
 ·simp [invoke,go_sem,eg]
 ·refine(hseq (W0.heap.size+1) (AnyZI.ApAt ρ w fn (.func (.func g) #[] lb) w.heap.size (W0.heap.size+1) W0.heap.size) W1 hb1 (AnyZI.ap_abides ρ _ _ _ _ _ _ _ hb1.size) (λ_ _ h=> h.below)
   (λpre x W hJ hl=> AnyZI.apYield { L with } F (n - 1 - 1) w fn hfn _ w.heap.size (W0.heap.size+1) W0.heap.size (by omega) (by omega) (by omega) (zac _) (by omega) N hN hNb pre x W hJ hl) hM).mono ?_
  rintro e W2 ⟨⟨v0,rfl⟩,ss,hS,h2⟩;obtain⟨v,hv,hrow,hnil⟩:=h2.box;have hend:=run_endLoop (P:=P) h2.L (by simp [AnyZI.apRec]);obtain⟨W3,hW3⟩:∃W3,W2.putObj (W0.heap.size+1) (.loop { AnyZI.apRec ρ fn (.func (.func g) #[] lb) w.heap.size W0.heap.size .ready none with state:=.exhausted })=W3:=⟨_,rfl⟩
  rw [hW3] at hend;have hg3:W2.grownBy W3 (some (W0.heap.size+1)):=by rw [<-hW3];exact grownBy_putObj_a _ _ _
  have hv3:W3.heap[w.heap.size]?=some (.cells #[v] (ρ.t 24) (0,0)):=by rw [<-hW3];exact(World.putObj_heap_other (by omega)).trans hv
  have hK3:W3.heap[W0.heap.size]?=some (.deferred (some [])):=by rw [<-hW3];exact(World.putObj_heap_other (by omega)).trans h2.K
  have hrow3:=hrow.kept hg3 (ownsRow_ne_a hrow h2.L (λcur e=> by first | cases e | exact hne (Obj.cells.inj e).2.1));have hb3:Below w.heap.size w W3:=h2.below.grown hg3 h2.below.size (λk e=> by cases e;omega);obtain⟨hc3,hf3⟩:=cell_of_box_a hv3
  clear hW3
  refine⟨none,W3,hend,?_⟩
  gi_wp2
  rw [<-hs0];refine⟨by simp,.inl ⟨_,_,rfl,run_takeDeferred hK3,?_⟩⟩;exact⟨_,results_tmp rfl _ _ _,v,ss,rfl,hS,hrow3.kept (grownBy_putObj_a _ _ _) (ownsRow_ne_a hrow3 hK3 (λcur e=> by first | cases e | exact hne (Obj.cells.inj e).2.1)),hnil,hb3.grown (grownBy_putObj_a _ _ _) hb3.size (λk e=> by cases e;omega)⟩
set_option maxRecDepth 100000 in
set_option maxHeartbeats 2000000 in
theorem abO(L:SlLaysZI.n8 P ρ)(F:Fence)(n:Nat)(h8:F.fn (ρ.f 8))(h11:F.fn (ρ.f 11))(hro:F.round=none)(hn:3<=n)(g:Nat)(lb:Array Value)(hFg:F.fn g)(eg:∀args w,(callFunc g args).run P w=.ok (.enter g args) w)
  (S:List Int->Prop) (N:Nat) (hN:N<=maxLen) (hNb:N*8<=140737488355328) (w:World) (hseq:Tv F (n - 1 - 1) P g lb encZ S N w):
  CallsIn F n P (ρ.f 8) #[.func (.func g) #[] lb] w λe w'=>∃(v:Value) (ss:List Int),e=.returned v/\S ss/\w'.ownsRow w.heap.size (ρ.t 26) 1 v ss.length (ss.map encZ)/\(v=.slice none 0 0↔ss=[])/\Below w.heap.size w w':=by
 have h1:1<=n:=by omega
 have mixed:=L.mixed;have t0:=L.t0;have a0:=L.a0;have z0:=L.z0;have v0:=L.v0;have t24:=L.t24;have a24:=L.a24;have z24:=L.z24;have v24:=L.v24;have t26:=L.t26;have a26:=L.a26;have z26:=L.z26;have v26:=L.v26;have t28:=L.t28;have a28:=L.a28;have z28:=L.z28;have v28:=L.v28;have u0:=run_underlying L.t0;have u24:=run_underlying L.t24;have u26:=run_underlying L.t26;have u28:=run_underlying L.t28;have e11:∀args w,(callFunc (ρ.f 11) args).run P w=.ok (.enter (ρ.f 11) args) w:=L.f11.enters rfl;obtain⟨_,_,FG⟩:=L.f8;refine callsIn_of_wp FG rfl h8 ?_ hro;simp only [SlBodyZ.n8_ntmps ρ,zb0,zah,zam,Nat.reduceAdd,Nat.reduceSub,zbX,zbY,zck,zb6,zaU,zbc]
 gi_wp2_with (gi_at_fn (ρ.f 11);refine(U4 { L with } F (n - 1) h11 hro (by omega) g lb hFg eg S N hN hNb _ hseq).mono ?_;rintro e w' ⟨v,ss,rfl,hS,hrow,hnil,hb⟩)
 go_ret
 exact⟨v,ss,rfl,hS,hrow,hnil,hb⟩
set_option maxRecDepth 100000 in
set_option maxHeartbeats 2000000 in
theorem agt(L:SlLaysZI.n6 P ρ)(F:Fence)(n:Nat)(h6:F.fn (ρ.f 6))(h8:F.fn (ρ.f 8))(h9:F.fn (ρ.f 9))(h11:F.fn (ρ.f 11))(hro:F.round=none)(hn:4<=n)(hsort:AnyZI.SortsIn P ρ F (n - 1))(e9:∀args w,(callFunc (ρ.f 9) args).run P w=.ok (.enter (ρ.f 9) args) w)(g:Nat)(lb:Array Value)(hFg:F.fn g)(eg:∀args w,(callFunc g args).run P w=.ok (.enter g args) w)
  (S:List Int->Prop) (N:Nat) (hN:N<=maxLen) (hNb:N*8<=140737488355328) (w:World) (hSN:∀ss,S ss->ss.length<=N) (hseq:Tv F (n - 1 - 1 - 1) P g lb encZ S N w):
  CallsIn F n P (ρ.f 6) #[.func (.func g) #[] lb] w λe w'=>∃(v:Value) (ss:List Int),e=.returned v/\S ss/\
   w'.ownsRow w.heap.size (ρ.t 26) 1 v ss.length ((ss.mergeSort (λx y=> decide (x<=y))).map encZ)/\(v=.slice none 0 0↔ss=[])/\Below w.heap.size w w':=by
 have h1:1<=n:=by omega
 have mixed:=L.mixed;have t0:=L.t0;have a0:=L.a0;have z0:=L.z0;have v0:=L.v0;have t24:=L.t24;have a24:=L.a24;have z24:=L.z24;have v24:=L.v24;have t26:=L.t26;have a26:=L.a26;have z26:=L.z26;have v26:=L.v26;have t28:=L.t28;have a28:=L.a28;have z28:=L.z28;have v28:=L.v28;have u0:=run_underlying L.t0;have u24:=run_underlying L.t24;have u26:=run_underlying L.t26;have u28:=run_underlying L.t28;have e8:∀args w,(callFunc (ρ.f 8) args).run P w=.ok (.enter (ρ.f 8) args) w:=L.f8.enters rfl;obtain⟨_,_,FG⟩:=L.f6;refine callsIn_of_wp FG rfl h6 ?_ hro;simp only [SlBodyZ.n6_ntmps ρ,zb0,zah,zam,Nat.reduceAdd,Nat.reduceSub,zbX,zbY,zck,zb6,zaU,zbc]
 gi_wp2_with (gi_at_fn (ρ.f 8);refine(abO { L with } F (n - 1) h8 h11 hro (by omega) g lb hFg eg S N hN hNb _ hseq).mono ?_;rintro e W ⟨v,ss,rfl,hS,hrow,hnil,hb⟩)
 rcases hrow.2 with⟨rfl,hz⟩ | ⟨gb,cap,cur,rfl,hbase,hgb,r1,r2,r3,r4⟩
 ·
  have hss:ss=[]:=zan hz;subst hss
  gi_wp2_with (gi_at_fn (ρ.f 9);refine(hsort.2 none 0 W).mono ?_;rintro e w' ⟨rfl,rfl⟩)
  go_ret
  exact⟨.slice none 0 0,[],rfl,hS,by simpa using hrow,by simp,hb⟩
 ·have hH:Holds encZ W gb 0 ss.toArray:=holds_of_block_i hgb (by simpa using r4);have hgl:gb < W.heap.size:=(za7.1 hgb).1;have hsz:ss.length < 4611686018427387904:=by have:=hSN ss hS;omega
  have cS:=hsort.1 gb 0 cap ss W hH hgl hsz
  gi_wp2_with (gi_at_fn (ρ.f 9);refine cS.mono ?_;rintro e w' ⟨rfl,nn,os,rfl⟩)
  go_ret
  exact⟨_,ss,rfl,hS,ownsRow_sorted_i (by simp) hbase hgb r1 r2 r3,hnil,hb.grown (grownBy_sorted_i _) hb.size (λj hj=> by cases hj;exact hbase)⟩
end
open Go.RowKit Go.Maps Go.Sort Go.Shelf
theorem Qs(m:Nat):AnyZI.SortsIn Tryz.prog Tryz.sortedA_ren Fence.wide m:=
 ⟨λblk off cap ss W hH hblk hsz=> callsIn_wide.2 (AnyM.slices_Sort_int Tryz.sortA blk off cap ss W hH hblk hsz),
  λp cap W=> callsIn_wide.2 (AnyM.slices_Sort_int_none Tryz.sortA p cap W)⟩
abbrev agu:Value->Option (DataW Unit × List MemPlace):=λ_=> some (.lit (.bool true),[])
theorem aez {ρ:Ren}{H:ah}{w w':World}(R:Rel ρ H w)(hb:Below w.heap.size w w'){v:Value}{zs:List Int}{e:TypeId}(h0:zs≠[])(h:w'.ownsRow w.heap.size e 1 v zs.length (zs.map encZ)):
  RV ρ H.gen w' (.vs zs.length 1 (zs.map λn=> .s (.int .i64 n))) v:=by
 obtain⟨_,⟨rfl,h1⟩ | ⟨gb,cap,cur,rfl,h1,h2,h3,h4,h5,h6⟩⟩:=h
 ·exact absurd (zan h1) h0
 ·simp only [RV];refine⟨gb,0,cap,rfl,h3,by simp,(za7.1 h2).1,LU R h1,?_⟩;have key:∀(l:List Int) (o:Nat),(∀j,j < l.length->w'.cell? ⟨gb,o+j,none⟩=(l[j]?).map encZ)->RVc ρ H.gen w' (l.map λn=> .s (.int .i64 n)) gb o:=by
   intro l
   induction l with
   | nil=> intro o _;simp only [zbG,RVc]
   | cons a l ih=>
    intro o hc;simp only [zaC,RVc];refine⟨⟨encZ a,by have:=hc 0 (by simp);simpa using this,by simp only [RV]⟩,ih (o+1) λj hj=> ?_⟩;have:=hc (j+1) (by simp only [zah];omega);rw [show o+(j+1)=o+1+j by omega] at this
    simpa using this
  refine key zs 0 λj hj=> ?_;rw [za5,zbi] at*;have hcj:cur.toList[j]?=(zs.map encZ)[j]?:=by rw [<-h6,zay,if_pos hj]
  rw [zaD] at hcj;unfold World.cell?;simp only [h2,<-hcj,zcL,zaB,zal,if_false]
set_option maxRecDepth 100000 in
theorem Qu(F:Fence)(n:Nat)(h7:F.fn 108)(hro:F.round=none)(l Bs:Nat)(J:List Int->World->Prop)(W:World)(hBs:W.cell? ⟨Bs,0,none⟩=some (.slice none 0 0))(h0:J [] W):CallsIn F n Tryz.prog 108 #[.func (.yield l) #[] #[],.pointer (some ⟨Bs,0,none⟩)] W λe W'=> (∃v,e=.returned v)/\J [] W':=by
 refine callsIn_of_wp Tryz.func108 rfl h7 ?_ hro;simp only [Tryz.ntmps108,zb0,zah,zam,Nat.reduceAdd,Nat.reduceSub,zbX,zbY,zck,zb6,zaU,zbc]
 gi_wp2
 gi_loopw [7] (λi wr=> i=.int .i64 0/\J [] wr) (λ_ _=> 0)
 case atStart=> exact⟨rfl,h0⟩
 case round=> obtain⟨rfl,hJs⟩:=hrel;gi_wp2;go_end0;exact⟨⟨_,rfl⟩,hJs⟩
set_option maxRecDepth 100000 in
set_option maxHeartbeats 1000000 in
theorem Qv(F:Fence)(n:Nat)(h7:F.fn 108)(hro:F.round=none)(hn:1<=n)(l Bs b off cap:Nat)(zs:List Int)(hreach:zs.length*8<=140737488351232)(J:List Int->World->Prop)(W:World)(hJ:∀pre W',J pre W'->∀j,j < zs.length->W'.cell? ⟨b,off+j,none⟩=some (.int .i64 (zs[j]?.getD 0)))
  (hY:∀pre x W,J pre W->pre.length < zs.length->YieldAt F (n - 1) Tryz.prog l #[encZ x] W λe W'=> e=.returned (.bool true)/\J (pre++[x]) W'/\KeepsWalks W W') (hBs:W.cell? ⟨Bs,0,none⟩=some (.slice (some ⟨b,off,none⟩) zs.length cap)) (h0:J [] W):
  CallsIn F n Tryz.prog 108 #[.func (.yield l) #[] #[],.pointer (some ⟨Bs,0,none⟩)] W λe W'=> (∃v,e=.returned v)/\J zs W':=by
 refine callsIn_of_wp Tryz.func108 rfl h7 ?_ hro;simp only [Tryz.ntmps108,zb0,zah,zam,Nat.reduceAdd,Nat.reduceSub,zbX,zbY,zck,zb6,zaU,zbc]
 gi_wp2
 gi_loopw [7] (λi wr=>∃k:Nat,k<=zs.length/\i=.int .i64 k/\J (zs.take k) wr) (λi _=> zs.length - (intOf i).toNat)
 case atStart=> exact⟨0,zaV _,rfl,h0⟩
 case round=>
  obtain⟨k,hk,rfl,hJs⟩:=hrel;have hcx:k < zs.length->wr.cell? ⟨b,off+k,none⟩=some (.int .i64 (zs[k]?.getD 0)):=hJ _ _ hJs k;by_cases hlt:k < zs.length
  ·obtain⟨x,hx⟩:∃x,x=zs[k]?.getD 0:=⟨_,rfl⟩
   have hcx':=hcx hlt;rw [<-hx] at hcx';obtain⟨fn,tmps,assign,body,hy,hR⟩:=hY _ x wr hJs (by rw [zav];omega);simp only [encZ] at hy;have ht:zs.take (k+1)=zs.take k++[x]:=by rw [zc9,hx,zab hlt];rfl
   have hkl:((k:Nat):Int) < (zs.length:Int):=by omega
   clear hcx hx
   gi_wp2
   refine hR.mono ?_;rintro e W3 ⟨rfl,hJ3,hk3⟩
   gi_wp2
   go_roundw
   case rel=>
    refine⟨k+1,by omega,by simp,?_⟩;rw [ht];exact hJ3
   case measure=> simp [intOf];omega
  ·obtain rfl:k=zs.length:=by omega
   gi_wp2
   go_end0
   rw [List.take_length] at hJs;exact⟨⟨_,rfl⟩,hJs⟩
theorem Qw:RJ 60 (qG wP pX):=by
 have key:∀args H v H',qG wP pX args H=some (v,H')->H'=H/\∃f r g,args=[.fn (.func f) [] [.ref r g 0]]/\f≠0/\
   ((∃ty m es,H.get r=.blk g ty [.mp m]/\ty < fQ/\H.get m=.map .i64 es/\f∈wP/\(es.map (·.1)).Nodup/\(es.all λe=> (Lit.int .i64 e.1).wf)=true/\es.length<=1000000/\v=LV (es.map (·.1)))∨
    (∃ty,H.get r=.blk g ty [.s (.slice none 0 0)]/\ty < fQ/\f∈pX/\v=aaU)∨
    (∃ty cells zs,H.get r=.blk g ty [.vs zs.length 1 cells]/\ty < fQ/\f∈pX/\Ei cells=some zs/\zs.length<=1000/\v=LV zs)):=by
  intro args H v H' h;unfold qG at h;split at h
  ·rename_i f r g;split at h
   ·rename_i g' ty m hr;split at h
    ·rename_i es hm;split at h
     ·rename_i hc;obtain⟨rfl,h1,h2,h3,h4,h5,h6⟩:=hc;cases h;exact⟨rfl,f,r,_,rfl,h2,.inl ⟨ty,m,es,hr,h1,hm,h3,h4,h5,h6,rfl⟩⟩
     ·cases h
    ·cases h
   ·rename_i g' ty n cells hr;split at h
    ·rename_i zs hz;split at h
     ·rename_i hc;obtain⟨rfl,h1,h2,h3,rfl,h5⟩:=hc;cases h;exact⟨rfl,f,r,_,rfl,h2,.inr (.inr ⟨ty,cells,zs,hr,h1,h3,hz,h5,rfl⟩)⟩
     ·cases h
    ·cases h
   ·rename_i g' ty hr;split at h
    ·rename_i hc;obtain⟨rfl,h1,h2,h3⟩:=hc;cases h;exact⟨rfl,f,r,_,rfl,h2,.inr (.inl ⟨ty,hr,h1,h3,rfl⟩)⟩
    ·cases h
   ·cases h
  ·cases h
 refine⟨GH λargs H v H' h ρ w jZ R ha=> ?_,λargs H v H' h=> ?_⟩;rotate_left
 ·rw [(key _ _ _ _ h).1];exact Keeps.refl H
 ·obtain⟨rfl,f,r,g,rfl,hf0,hh⟩:=key _ _ _ _ h;obtain⟨cf,rfl,h1⟩:=PU ha;simp only [RV] at h1;obtain⟨fa,fc,rfl,h2,h3⟩:=h1;have hfa:fa=#[]:=by simp only [RVs] at h2;exact Array.ext' (by simpa using h2)
  subst hfa;obtain⟨cp,rfl,h4⟩:=PU h3;simp only [RV] at h4;obtain⟨a,rfl,h5,h6⟩:=h4;rcases hh with⟨ty,m,es,hr,hty,hm,hk,hnd,hwf,hlen,rfl⟩ | ⟨ty,hr,hty,hv,rfl⟩ | ⟨ty,cells,zs,hr,hty,hv,hz,hlen,rfl⟩
  ·have hg:H'.gen r=g:=by simp [ah.gen,hr,fD.gen]
   obtain⟨b,sh,h7,rfl⟩:=h6 hg;have qN:=R.obj r b sh h7;simp only [wH,hr] at qN;obtain⟨cs,e,o1,o2,o3,o4⟩:=qN;obtain⟨o5,rfl,o7⟩:=o4.1 hty;simp only [RVc] at o3;obtain⟨⟨mv,o8,o9⟩,_⟩:=o3;simp only [RV] at o9;obtain⟨bm,rfl,o10⟩:=o9;have o11:=o10 (by simp [ah.gen,hm,fD.gen]);have hmo:=R.obj m bm 0 o11;simp only [wH,hm] at hmo;obtain⟨ces,dD,m1,_,m3,m4⟩:=hmo;have hkeys:ces.toList.map (λx=> x.key)=(es.map (·.1)).map encZ:=by
    have:∀(es:List (Int × AV)) (l:List MapEntry),RVm ρ H'.gen w .i64 es l->l.map (λx=> x.key)=(es.map (·.1)).map encZ:=by
     intro es
     induction es with
     | nil=> intro l hl;simp only [RVm] at hl;subst hl;rfl
     | cons x es ih=>
      intro l hl;obtain⟨n,y⟩:=x;simp only [RVm] at hl;obtain⟨e,es',rfl,k1,_,k3⟩:=hl;simp only [zaC,k1,ih es' k3]
    exact this es _ m3
   have hsz:ces.size=es.length:=by
    have:=congrArg List.length hkeys
    simpa using this
   have hrd:∀x∈ces.toList,∃n,n∈es.map (·.1)/\x.key=encZ n/\Go.WideElems.rd Tryz.prog 3 agu x=some (.int .i64 n,.lit (.bool true)):=by
    intro x hx;have hx':x.key∈(es.map (·.1)).map encZ:=by rw [<-hkeys];exact zaS.2 ⟨x,hx,rfl⟩
    obtain⟨n,hn,hxn⟩:=zaS.1 hx';refine⟨n,hn,hxn.symm,?_⟩;have hw:(Lit.int .i64 n).wf=true:=by
     obtain⟨e,he,rfl⟩:=zaS.1 hn;exact zaZ.1 hwf e he
    have hko:keyOf Tryz.prog 3 x.key=some (.int .i64 n):=by
     rw [<-hxn];simp [keyOf,mapKey,Tryz.underlying3,hw]
    exact Go.WideElems.rd_mk (R:=agu) (key:=x.key) (val:=x.val) (born:=x.born) (yv:=(.lit (.bool true),[])) hko rfl
   have apP:(ces.toList.map (λx=> x.key)).Nodup:=by
    rw [hkeys];exact zb1.2 (hnd.imp λhab he=> hab (encZ_inj he))
   let D0:DataW Unit:=.map ((ces.toList.map (Go.WideElems.rg Tryz.prog 3 agu)).foldr DataW.insert []);have hown:w.ownsMap Tryz.prog 3 agu bm ces.size D0:=⟨ces,dD,m1,⟨by rw [hsz];unfold maxLen;omega,⟨m4.1,m4.2,apP⟩,λx hx=> by
    obtain⟨n,_,_,h⟩:=hrd x hx;exact⟨_,h⟩⟩,zac _,rfl⟩
   have hik:(intKeys D0).Perm (es.map (·.1)):=by
    have p1:((ces.toList.map (Go.WideElems.rg Tryz.prog 3 agu)).foldr DataW.insert []).Perm (ces.toList.map (Go.WideElems.rg Tryz.prog 3 agu)):=Go.WideShapes.sorted_perm _;have p2:=p1.map λp=> Go.intOf p.1;refine p2.trans ?_;have:(ces.toList.map (Go.WideElems.rg Tryz.prog 3 agu)).map (λp=> Go.intOf p.1)=es.map (·.1):=by
     rw [zcN];have hinj:∀a b:List Int,a.map encZ=b.map encZ->a=b:=λa b h=> by
      have:=congrArg (List.map λv:Value=> match v with | .int _ n=> n | _=> 0) h
      simpa [zcN,Function.comp_def,encZ] using this
     refine hinj _ _ ?_;rw [<-hkeys,zcN];refine zbk λx hx=> ?_;obtain⟨n,_,hxn,hr⟩:=hrd x hx;simp only [Function.comp_apply,Go.WideElems.rg_of hr,Go.intOf,hxn]
    rw [this]
   have hms:Maps.size D0=es.length:=by
    show((ces.toList.map _).foldr DataW.insert []).length=_;rw [(Go.WideShapes.sorted_perm _).length_eq,zax,Array.length_toList,hsz]
   have hbl:b < w.heap.size:=(za7.1 o1).1;obtain rfl:f=195:=by
    simp only [wP,zar,zaH,or_false] at hk;rcases hk with hk | hk
    ·exact hk
    ·exact absurd hk hf0
   have hseq:SeqGives Fence.wide 2 Tryz.prog 195 #[.pointer (some ⟨b,0,none⟩)] encZ (λss=> ss.Perm (intKeys D0)) (Maps.size D0) w:=
    AnyZI.keys_gives (ρ:=Tryz.keysA_ren) { Tryz.keysA with } Fence.wide _ trivial rfl (by omega) b bm _ D0 w hbl o8 hown
   have cS:=AnyZI.sorted_in Tryz.sortedA Fence.wide 5 trivial trivial trivial trivial rfl (by omega) (Qs _) (enters_of Tryz.func107 (by kernel_rfl) rfl) 195 #[.pointer (some ⟨b,0,none⟩)] trivial (enters_of Tryz.func195 (by kernel_rfl) rfl) _ _ (by rw [hms];unfold maxLen;omega) (by rw [hms];omega) _ hseq;refine((callsIn_wide (n:=5)).1 cS).mono λe w' ⟨v,ss,he,hp,hrow,hnil,hB⟩=> ?_;obtain⟨r1,r2⟩:=uH R hB;have hpp:=hp.trans hik;refine⟨v,ρ,he,r1,?_,r2⟩;unfold LV;split
   ·rename_i hz;rw [hz] at hpp;have:=hnil.2 hpp.eq_nil;subst this;simp only [aaU,RV]
   ·rename_i hz;have hlen2:ss.length=(es.map (·.1)).length:=hpp.length_eq;rw [mergeSort_of_perm_i hpp] at hrow;have hml:((es.map (·.1)).mergeSort leI).length=(es.map (·.1)).length:=List.length_mergeSort _;have:=aez R hB (zs:=(es.map (·.1)).mergeSort leI) (λh=> hz (by
     rw [h] at hml;exact zan hml.symm)) (by rw [hml,<-hlen2];exact hrow)
    rw [hml] at this;exact this
  ·have hg:H'.gen r=g:=by simp [ah.gen,hr,fD.gen]
   obtain⟨b,sh,h7,rfl⟩:=h6 hg;have qN:=R.obj r b sh h7;simp only [wH,hr] at qN;obtain⟨cs,e,o1,o2,o3,o4⟩:=qN;obtain⟨o5,rfl,o7⟩:=o4.1 hty;simp only [RVc] at o3;obtain⟨⟨mv,o8,o9⟩,_⟩:=o3;simp only [RV] at o9;subst o9;have hbl:b < w.heap.size:=(za7.1 o1).1;obtain rfl:f=108:=by simp only [pX,zar,zaH,or_false] at hv;rcases hv with hv | hv;exact hv;exact absurd hv hf0
   have hseq:SeqGives Fence.wide 2 Tryz.prog 108 #[.pointer (some ⟨b,0,none⟩)] encZ (λss:List Int=> ss=[]) 0 w:=λl J W hW hJ _ h0=> (Qu Fence.wide 2 trivial rfl l b J W ((hW.cell (p:=⟨b,0,none⟩) hbl).trans o8) h0).mono λe W' ⟨he,hj⟩=> ⟨he,[],rfl,hj⟩
   have cS:=AnyZI.sorted_in Tryz.sortedA Fence.wide 5 trivial trivial trivial trivial rfl (by omega) (Qs _) (enters_of Tryz.func107 (by kernel_rfl) rfl) 108 #[.pointer (some ⟨b,0,none⟩)] trivial (enters_of Tryz.func108 (by kernel_rfl) rfl) _ 0 (zaV _) (by omega) _ hseq;refine((callsIn_wide (n:=5)).1 cS).mono λe w' ⟨v,ss,he,hp,hrow,hnil,hB⟩=> ?_;obtain⟨r1,r2⟩:=uH R hB;have:=hnil.2 hp;subst this;exact⟨_,ρ,he,r1,by simp only [aaU,RV],r2⟩
  ·have hg:H'.gen r=g:=by simp [ah.gen,hr,fD.gen]
   obtain⟨b,sh,h7,rfl⟩:=h6 hg;have qN:=R.obj r b sh h7;simp only [wH,hr] at qN;obtain⟨cs,e,o1,o2,o3,o4⟩:=qN;obtain⟨o5,rfl,o7⟩:=o4.1 hty;simp only [RVc] at o3;obtain⟨⟨mv,o8,o9⟩,_⟩:=o3;simp only [RV] at o9;obtain⟨gb,off,cap,rfl,q1,q2,q3,q4,q5⟩:=o9;have hbl:b < w.heap.size:=(za7.1 o1).1;obtain rfl:f=108:=by simp only [pX,zar,zaH,or_false] at hv;rcases hv with hv | hv;exact hv;exact absurd hv hf0
   have hcells:=LW hz;have hrd:∀(l:List Int) (o:Nat),RVc ρ H'.gen w (l.map λn=> .s (.int .i64 n)) gb o->∀j,j < l.length->w.cell? ⟨gb,o+j,none⟩=some (.int .i64 (l[j]?.getD 0)):=by
    intro l
    induction l with
    | nil=> intro o _ j hj;cases hj
    | cons a l ih=>
     intro o h j hj;simp only [zaC,RVc] at h;obtain⟨⟨x,x1,x2⟩,h2⟩:=h;simp only [RV] at x2;subst x2;cases j with
     | zero=> exact x1
     | succ j=>
      have:=ih (o+1) h2 j (by simpa using hj);rw [show o+1+j=o+(j+1) by omega] at this
      simpa using this
   have hcs:=hrd zs off (hcells ▸ q5);have hseq:Tv Fence.wide 2 Tryz.prog 108 #[.pointer (some ⟨b,0,none⟩)] encZ (λss:List Int=> ss=zs) zs.length w:=λl J W hW hA hJB hY h0=> (Qv Fence.wide 2 trivial rfl (by omega) l b gb off cap zs (by omega) J W (λpre W' hp j hj=> ((hJB pre W' hp).cell (p:=⟨gb,off+j,none⟩) q3).trans (hcs j hj)) hY ((hW.cell (p:=⟨b,0,none⟩) hbl).trans o8) h0).mono λe W' ⟨he,hj⟩=> ⟨he,zs,rfl,hj⟩
   have cS:=agt Tryz.sortedA Fence.wide 5 trivial trivial trivial trivial rfl (by omega) (Qs _) (enters_of Tryz.func107 (by kernel_rfl) rfl) 108 #[.pointer (some ⟨b,0,none⟩)] trivial (enters_of Tryz.func108 (by kernel_rfl) rfl) _ zs.length (by unfold maxLen;omega) (by omega) _ (λss h=> by rw [h];exact zac _) hseq;refine((callsIn_wide (n:=5)).1 cS).mono λe w' ⟨v,ss,he,hp,hrow,hnil,hB⟩=> ?_;obtain⟨r1,r2⟩:=uH R hB;subst hp;refine⟨v,ρ,he,r1,?_,r2⟩;unfold LV;split
   ·rename_i hz;have:=hnil.2 hz;subst this;simp only [aaU,RV]
   ·rename_i hz;have hml:(ss.mergeSort leI).length=ss.length:=List.length_mergeSort _;have:=aez R hB (zs:=ss.mergeSort leI) (λh=> hz (by rw [h] at hml;exact zan hml.symm)) (by rw [hml];exact hrow);rw [hml] at this;exact this
open Go.RowKit
theorem agv:∀x∈afo,RJ x.1 x.2:=by
 unfold afo;refine zbZ.2 ⟨Qw,?_⟩;refine zbZ.2 ⟨afp _,?_⟩;refine zbZ.2 ⟨Qr,?_⟩;refine zbZ.2 ⟨afp _,?_⟩;refine zbZ.2 ⟨afp _,?_⟩;refine zbZ.2 ⟨⟨λf args H v H' h=> ?_,λargs H v H' h=> (by cases h)⟩,λx hx=> (by cases hx)⟩;simp only at h;split at h <;> cases h
theorem Ht {α:Type}{f:Nat}{p:α}:∀{l:List (Nat × α)},l.lookup f=some p->(f,p)∈l
 | [],h=> by cases h
 | (k,q)::l,h=> by
  rw [List.lookup_cons] at h;split at h
  ·rename_i e;cases h;rw [beq_iff_eq] at e;subst e;simp
  ·exact zbH _ (Ht h)
theorem alz:UA Tryz.prog pol:=λf p h=> agv (f,p) (Ht h)
theorem Tz:jO cl:=(callω_ok (P:=Tryz.prog) alz (by kernel_rfl)).2
open Go.ChangeShapes Go.WideShapes Go.ChangeAt Go.RowKit
theorem aor:UA Tryz.prog pol:=
 alz
theorem apQ {w:World}:Z8 ρ0 w:=⟨λb hb=> (by cases hb),trivial⟩
theorem aos:ownKnob Tryz.prog.godebug=none:=by kernel_rfl
theorem alA:laidOutB Tryz.prog=true:=by kernel_rfl
theorem agw:Tryz.prog.follows .mixedOrders=true:=by kernel_rfl
def Cfg.avx(c:Cfg)(y:AV):List AV:=[I c.aP,I c.aW,I c.aQ,I c.sets,I c.ways,I c.out,I c.inn,y]
theorem ji(c:Cfg){y:AV}(h:One y):(c.avx y).all AV.aU=true:=by simp [Cfg.avx,gX,h.2]
theorem kT {c:Cfg}{y:AV}:(c.avx y).length=8:=rfl
theorem jl {c:Cfg}{y:AV}:(c.avx y).take 8=c.avx y:=rfl
theorem Y4(H:ah)(c:Cfg){y:AV}(hy:One y)(hyl:∀K:ah,K.next=H.next+1->(∀r,r < H.next->K.get r=H.get r)->lnS y K=some (I c.init.length,K))(h:c.ok=true):cl 10 [.agg (c.avx y)] H=some (I 0,H):=by
 refine aV rfl rfl (air _ _ _) ?_ dQ;have w:=λH n m=> Nk H n m;have e1:=hyl (H.guard.new (.blk 0 24 (c.avx y))) rfl (λr hr=> aS hr);simp only [Cfg.avx] at e1;simp only [Cfg.ok,zaj,decide_eq_true_eq] at h;obtain⟨⟨⟨⟨⟨⟨⟨a,b⟩,d⟩,f⟩,g⟩,i⟩,j⟩,k⟩:=h;have t:∀n m,1<=n/\n<=m->pR n m=true:=λn m h=> by simp [pR,h.1,h.2]
 have hm:IntKind.wrap .i64 (c.aW*c.aQ)=c.aW*c.aQ:=by
  have:c.aW*c.aQ<=8*4:=zca b.2 d.2 (by omega) (by omega);have:0<=c.aW*c.aQ:=zcs (by omega) (by omega);exact wrap_i64 (by omega) (by omega)
 have k':¬c.aW*c.aQ < c.init.length:=by omega
 simp only [Nat.reduceLT,xq_,hq_,afq,aC,hy.2,Cfg.avx,w,t _ _ a,t _ _ b,t _ _ d,t _ _ f,t _ _ g,t _ _ i,t _ _ j,e1,lY,hm,k',zad]
theorem Y5(H:ah)(c:Cfg){y:AV}(hy:One y)(h:c.ok=true):cl 27 [.agg (c.avx y)] H=some (I c.iF,H):=by
 refine aV rfl rfl (aiC _ _ _) ?_ dQ;simp only [Cfg.ok,zaj,decide_eq_true_eq] at h;obtain⟨⟨⟨⟨⟨⟨⟨a,b⟩,d⟩,f⟩,g⟩,i⟩,j⟩,k⟩:=h;have hm:IntKind.wrap .i64 (c.aW*c.aQ)=c.aW*c.aQ:=by
  have:c.aW*c.aQ<=8*4:=zca b.2 d.2 (by omega) (by omega);have:0<=c.aW*c.aQ:=zcs (by omega) (by omega);exact wrap_i64 (by omega) (by omega)
 simp only [Nat.reduceLT,xq_,hq_,afu,aC,hy.2,Cfg.avx,lY,hm,Cfg.iF]
theorem U5(H:ah)(c:Cfg){y:AV}(hy:One y)(h:c.ok=true)(a:Int):cl 70 [.agg (c.avx y),I a] H=some (.tup [I (c.dS a),I (c.jJ a)],H):=by
 have B:=uN h;refine aV rfl rfl (aja _ _ _ _) ?_ (sH λx hx=> by
  simp only [zar,zaH,or_false] at hx;rcases hx with rfl | rfl <;> exact dQ)
 have e:=λH=> Y5 H c hy h;by_cases h0:a < 0
 ·simp only [Nat.reduceLT,Int.reduceNeg,xq_,hq_,Qd,aC (ji c hy),h0,Cfg.dS,Cfg.jJ,true_or]
 ·by_cases h1:c.iF<=a
  ·simp only [Nat.reduceLT,Int.reduceNeg,xq_,hq_,Qd,aC (ji c hy),kT,jl,h0,h1,Cfg.dS,Cfg.jJ,or_true,e]
  ·have q:a.tdiv c.aQ=a / c.aQ:=zcj (by omega);have r:a.tmod c.aQ=a % c.aQ:=zbB (by omega);have q1:0<=a / c.aQ:=zdp (by omega) (by have:=B.aQ;omega);have q2:a / c.aQ<=a:=Int.ediv_le_self _ (by omega);have q3:c.iF<=32:=B.iF.2;have w:=wrap_i64 (a:=a / c.aQ) (by omega) (by omega);have z:c.aQ≠0:=by have:=B.aQ;omega
   have l2:(c.avx y)[2]?=some (I c.aQ):=rfl;simp only [Nat.reduceLT,Int.reduceNeg,xq_,hq_,Qd,aC (ji c hy),kT,jl,h0,h1,Cfg.dS,Cfg.jJ,or_false,e,l2,xg z,qA z,q,r,w]
theorem Y6(H:ah)(c:Cfg){y:AV}(hy:One y)(h:c.ok=true)(o:Opn):cl 35 [.agg (c.avx y),.agg o.av] H=some (B (c.right o),H):=by
 refine aV rfl rfl (aiL _ _ _ _) ?_ dQ;have e:=λH=> U5 H c hy h o.addr;have f1:c.right o=(decide (1<=o.bf) && decide (o.bf<=4) && !decide (c.dS o.addr=-1) && (decide (o.value=0) || decide (o.bf=2) || decide (o.bf=3))):=by simp [Cfg.right]
 rw [f1];by_cases a:1<=o.bf;rotate_left
 ·simp only [Nat.reduceLT,Int.reduceNeg,xq_,hq_,xH,aC (ji c hy),kT,jl,aC,Opn.av,e,a,zaL]
 by_cases b:o.bf<=4;rotate_left
 ·simp only [Nat.reduceLT,Int.reduceNeg,xq_,hq_,xH,aC (ji c hy),kT,jl,aC,Opn.av,e,a,b,zaI,zaL]
 by_cases d:c.dS o.addr=-1
 ·simp only [Nat.reduceLT,Int.reduceNeg,xq_,hq_,xH,aC (ji c hy),kT,jl,aC,Opn.av,e,a,b,d,zaI,zaL,zad]
 by_cases f:o.value=0
 ·simp only [Nat.reduceLT,Int.reduceNeg,xq_,hq_,xH,aC (ji c hy),kT,jl,aC,Opn.av,e,a,b,d,f,zaf,zbT]
 by_cases g:o.bf=2
 ·simp only [Nat.reduceLT,Int.reduceLE,Int.reduceEq,Int.reduceNeg,xq_,hq_,xH,aC (ji c hy),kT,jl,aC,Opn.av,e,d,f,g,zaf,zbT,zcO]
 by_cases i:o.bf=3
 ·simp only [Nat.reduceLT,Int.reduceLE,Int.reduceEq,Int.reduceNeg,xq_,hq_,xH,aC (ji c hy),kT,jl,aC,Opn.av,e,d,f,i,zaf,zcO]
 ·simp only [Nat.reduceLT,Int.reduceNeg,xq_,hq_,xH,aC (ji c hy),kT,jl,aC,Opn.av,e,a,b,d,f,g,i,zaf,zdc,zbQ]
theorem NP(H:ah)(c:Cfg){y:AV}(hy:One y)(h:c.ok=true)(o:Opn){r ty:Nat}(hr:r < H.next)(hg:H.get r=.blk 0 ty (c.avx y)):cl 34 [.agg o.av,.ref r 0 0] H=some (B (!c.right o),H):=by
 refine aV rfl rfl (aiK _ _ _ _) ?_ dQ;have e:=λH=> Y6 H c hy h o;have e1:lda 8 (.ref r 0 0) (H.guard.new (.blk 0 26 o.av))=some (.agg ((c.avx y).take 8),_):=fO (off:=0) (n:=8) (by rw [aS (by rw [tZ];exact hr),Xe];exact hg) (zac 8);simp only [Nat.reduceLT,xq_,hq_,afz,aC (nK o),jl,e1,e]
theorem U6(H:ah)(c:Cfg){y:AV}(hy:One y)(h:c.ok=true){v:AV}{l:List Opn}(hv:aH H v 3 l.length (l.flatMap Opn.av))(hl:l.length < 1000000000){r ty:Nat}(hr:r < H.next)(hg:H.get r=.blk 0 ty (c.avx y)):cl 32 [v,.ref r 0 0] H=some (B (!(decide (l.length<=24) && l.all c.right)),H):=by
 refine aV rfl rfl (aiI _ _ _ _) ?_ dQ;have e1:=hv.guard.lnS;have e2:=EG H.guard (enc:=Opn.av) fH (f:=.fn (.func 34) [] [.ref r 0 0]) hv.guard hl (λo=> !c.right o) (λo _=> by
  rw [ny (by kernel_rfl)];exact NP H.guard c hy h o hr hg)
 have e3:cl 33 [v,.fn (.func 34) [] [.ref r 0 0]] H.guard=some (B (l.findIdx? λo=> !c.right o).isSome,H.guard):=by
  refine aX rfl rfl (aiJ _ _ _ _ ?_);simp only [xq_,afy,e2,sO]
 have e4:(l.findIdx? λo=> !c.right o).isSome=!l.all c.right:=by
  rw [zcp,zcx]
 by_cases h0:l.length<=24
 ·have h1:¬(24:Int) < l.length:=by omega
  simp only [xq_,XE,e1,e3,e4,h0,h1,zaI]
 ·have h1:(24:Int) < l.length:=by omega
  simp only [xq_,XE,e1,h0,h1,zaL,zaf]
theorem agx(H:ah)(c:Cfg){y:AV}(hy:One y)(h:c.ok=true){x:AV}{ps:List (List Opn)}(hx:Bv H x ps)(hn:ps.length < 1000000000)(hl:∀l∈ps,l.length < 1000000000):cl 11 [.agg (c.avx y),x] H=some (I (if c.mF ps then 0 else 1),H):=by
 refine aV rfl rfl (ais _ _ _ _) ?_ dQ;have hx1:=hx.fV (H':=H.guard.new (.blk 0 24 (c.avx y))) (by rw [dL,tZ];omega) λr hr=> by rw [aS (by rw [tZ];exact hr),Xe]
 obtain⟨cells,x1,x2⟩:=hx1;have hcl:cells.length=ps.length:=by have:=x1.1;omega
 let bad:List Opn->Bool:=λl=> !(decide (l.length<=24) && l.all c.right)
 have e2:=EH (H.guard.new (.blk 0 24 (c.avx y))) (f:=.fn (.func 32) [] [.ref H.next 0 0]) x1 hn (λi=> bad (ps.getD i [])) (λi v hv=> by
  have hi:i < ps.length:=by rw [<-hcl];exact(zak.1 hv).1
  have hpi:ps[i]?=some (ps.getD i []):=by simp [List.getD,zab hi]
  rw [ny (by kernel_rfl)];exact U6 _ c hy h (x2 i v _ hv hpi).1 (hl _ (zaw hpi)) (by rw [dL,tZ];omega) (aJ (by rw [tZ])))
 have e4:((List.range ps.length).findIdx? λi=> bad (ps.getD i [])).isSome=!(ps.all λl=> decide (l.length<=24) && l.all c.right):=by
  rw [zcp,zcx,Bool.eq_iff_iff,zb8,zb8];constructor
  ·rintro⟨i,hi,hb⟩;have hi:i < ps.length:=zaY.1 hi;exact⟨ps.getD i [],zaw (i:=i) (by simp [List.getD,zab hi]),hb⟩
  ·rintro⟨l,hm,hb⟩;obtain⟨i,hi,he⟩:=zdq hm;have hg:ps.getD i []=l:=by simp [List.getD,zab hi,he]
   exact⟨i,zaY.2 hi,by rw [hg];exact hb⟩
 have e3:cl 31 [x,.fn (.func 32) [] [.ref H.next 0 0]] (H.guard.new (.blk 0 24 (c.avx y)))=some (B (!(ps.all λl=> decide (l.length<=24) && l.all c.right)),H.guard.new (.blk 0 24 (c.avx y))):=by
  refine aX rfl rfl (aiH _ _ _ _ ?_);simp only [xq_,afx,e2,sO,e4]
 have l0:(c.avx y)[0]?=some (I c.aP):=rfl;have e5:=x1.lnS;cases hb:ps.all λl=> decide (l.length<=24) && l.all c.right with
 | false=> simp only [Nat.reduceLT,xq_,hq_,P6,aC (ji c hy),e3,hb,zaf,Cfg.mF,zaL]
 | true=>
  by_cases hc:(ps.length:Int)=c.aP
  ·simp only [Nat.reduceLT,xq_,hq_,P6,aC (ji c hy),e3,e5,hb,l0,zad,Cfg.mF,hc]
  ·simp only [Nat.reduceLT,xq_,hq_,P6,aC (ji c hy),e3,e5,hb,l0,zad,zaf,Cfg.mF,zaI,hc]
theorem Qx(H:ah)(hb:H.base<=H.next)(c:Cfg)(h:c.ok=true){y:AV}(hy:jR H y c.init){x:AV}{ps:List (List Opn)}(hx:Bv H x ps)(hp:c.mF ps=true):∃H' A g',cl 4 [.agg (c.avx y),x] H=some (.tup [.ref A.jc 0 0,I 0],H')/\Made H H' g'/\fZ g' A (.new c ps):=by
 have Bd:=uN h;obtain⟨hp1,hp2⟩:=yU hp;have hn:=Bd.aP;let H0:=H.new (.blk 0 24 (c.avx y));let H1:=H.new (.blk 0 24 c.av);have lt1:H.next < H1.next:=by simp only [H1,dL];omega
 have g1:H1.get H.next=.blk 0 24 c.av:=aJ rfl
 have b1:lda 8 (.ref H.next 0 0) H0=some (.agg (c.avx y),H0):=(fO (off:=0) (n:=8) (xs:=c.avx y) (aJ rfl) (zac 8)).trans rfl;have e1:=Y4 H0 c hy.one (λK hk hg=> (hy.is.fV (H':=K) (by rw [hk];simp only [H0,dL];omega) λr _ hr=> by rw [hg r (by simp only [H0,dL];omega)];exact aS hr).lnS) h;have e2:=agx H0 c hy.one h (hx.fV (H':=H0) (by simp only [H0,dL];omega) λr hr=> aS hr) (by omega) λl hl=> by have:=hp2 l hl;omega
 rw [hp] at e2;have e3:=uQ H0 (x:=y) (l:=c.init) (by have:=Bd.init;have:=Bd.iF;omega) (hy.new _);obtain⟨H2',f,P,gf,e4,M1,F1,J1⟩:=Nq H1.guard (zac _) c h;obtain⟨H2,e4,M1⟩:=drawn e4 M1;obtain⟨H3',t,e5,M2⟩:=SS H2.guard;obtain⟨H3,e5,M2⟩:=drawn e5 M2;let A0:Adr:=⟨H3.next,f,t,λ_ _=> 0,P⟩
 have bx:∀H':ah,(∀r,r < H1.next->H'.get r=H1.get r)->H'.get H.next=.blk 0 24 c.av:=λH' hs=> by rw [hs _ lt1,g1]
 have M12:=M1.add M2;have b3:=iH (bx H3 M12.same);have b2:=iH (bx H2 M1.same);let xs:=yT A0 c++[zN]
 have hall:xs.all AV.aU=true:=by simp only [xs,yT,zbF,eu];rfl
 have M3:Made H3 (H3.new (.blk 0 50 xs)) (upd oW H3.next (nI A0 c 0)):=by
  refine lJ hall (by simp [xs,nI]) λi cc y hc hy=> ?_;simp only [nI] at hc;by_cases hi:i < (yT A0 c).length
  ·left;rw [zaP (by rw [zax];exact hi),zaD] at hc;rw [zaP hi] at hy;rw [hy] at hc;exact(zaX hc).symm
  ·right;have hlen:(yT A0 c).length=10:=rfl;have:i=10:=by
    have:=(zak.1 hy).1;simp only [xs,zaq,zah,zam] at this;omega
   subst this;cases hc;cases hy;exact⟨rfl,1,rfl⟩
 have M0:=M12.add M3;let g0:=upd (upd gf t (kH [])) H3.next (nI A0 c 0)
 let K:=H3.next
 have key:∀k i,i+k=ps.length->∀Hi gi N,Made H1 Hi gi->gi K=some (nI { A0 with N:=N } c i)->(∀q,q < K->gi q=g0 q)->(∀(j:Nat) l,j < i->ps[j]?=some l->nH gi (N j) c j (.new c j l))->ahd N i->
   ∃H' g' N',MG cl [.ref H.next 0 0,.ref K 0 0,x,I ps.length,I i] Hi=some (.tup [.ref K 0 0,I 0],H')/\Made H1 H' g'/\g' K=some (nI { A0 with N:=N' } c ps.length)/\(∀q,q < K->g' q=g0 q)/\(∀(j:Nat) l,j < ps.length->ps[j]?=some l->nH g' (N' j) c j (.new c j l))/\ahd N' ps.length:=by
  intro k
  induction k with
  | zero=>
   intro i hi Hi gi N M hm hl hnd hj;have h1:¬(i:Int) < ps.length:=by omega
   have hi':ps.length=i:=by omega
   rw [RP];refine⟨Hi,gi,N,?_,M,by rw [hi'];exact hm,hl,by rw [hi'];exact hnd,by rw [hi'];exact hj⟩;simp only [xq_,h1]
  | succ k ih=>
   intro i hi Hi gi N M hm hlow hnd hj;have h1:(i:Int) < ps.length:=by omega
   have h6:(i:Int)+1=((i+1:Nat):Int):=by omega
   have h7:=wrap_i64 (a:=((i+1:Nat):Int)) (by omega) (by omega);have hxi:=hx.fV (H':=Hi) (zas (Nat.le_of_lt lt1) M.next) λr hr=> by rw [M.same r (by omega)];exact aS hr
   obtain⟨cells,x1,x2⟩:=hxi;have hcl:cells.length=ps.length:=by have:=x1.1;omega
   have s1:=x1.ix (k:=.i64) (i:=(i:Int)) (by omega) h1;rw [zao] at s1;have s2:=x1.ld (i:=i) (by omega);obtain⟨v,hv⟩:∃v,cells[i]?=some v:=⟨_,zab (by omega)⟩
   obtain⟨l,hl⟩:∃l,ps[i]?=some l:=⟨_,zab (by omega)⟩
   rw [hv] at s2;obtain⟨v1,v2⟩:=x2 i v l hv hl;have s4:=iH (bx Hi M.same);obtain⟨y,hy,cy⟩:=M.good.seq hm (i:=10) (m:=1) (l:=nT N i) rfl;obtain⟨Ha',a,ga,a1,Ma,Ia⟩:=YK Hi.guard c h i l (by have:=hp2 l (zaw hl);omega) v1.guard v2;obtain⟨Ha,a1,Ma⟩:=drawn a1 Ma;have Na:=M.trans Ma;let ga':=cup Hi.next gi ga
   have hK:=M.good.lt hm;have aga:∀q,q < Hi.next->ga' q=gi q:=λq hq=> by simp only [ga',cup,hq,if_true]
   have hma:ga' K=some (nI { A0 with N:=N } c i):=by rw [aga K hK,hm]
   let o:fD:=.blk 0 51 [.ref (a 0) 0 0];have hnl:(nT N i).length=i*1:=by simp [nT]
   obtain⟨y',He,Hf,t1,t2,t3,t4⟩:=(Na.good.new o).append (e:=51) (by_:=8) (by rw [iC,Na.base];simp only [H1,iC,dL];omega) hma (i:=10) rfl (by decide) hnl ((cy.ext Ma.next Ma.same).new o) (jI (ex:=true) (n:=1) (m:=1) (l:=[.ref (a 0) 0 0]) rfl) rfl (by unfold most;omega) (by unfold most;omega);let N':Nat->Nat->Nat:=λj=> if j=i then a else N j
   have hN:∀j,j < i->N' j=N j:=λj hj=> by simp only [N'];rw [if_neg (by omega)]
   have hNi:N' i=a:=by simp only [N',if_true]
   have Mf:Made H1 Hf (upd ga' K (nI { A0 with N:=N' } c (i+1))):=by
    refine((Na.new o).step t3 t4).as ?_
    congr 1
    simp only [nI];rw [EI hN,hNi];rfl
   have hal:∀s,s < 6->Hi.next<=a s/\ga' (a s)=ga (a s):=λs hs=> by
    obtain⟨l,hg⟩:=Ia.some hs;have:=(Ma.lt hg).1;exact⟨this,by simp only [ga',cup];rw [if_neg (by omega)]⟩
   have hNl:∀j,j < i->∀s,s < 6->N j s < Hi.next:=λj hji s hs=> by
    obtain⟨lj,hlj⟩:∃l,ps[j]?=some l:=⟨_,zab (by omega)⟩
    obtain⟨l,hg⟩:=(hnd j lj hji hlj).some hs;exact M.good.lt hg
   obtain⟨H',g',N'',r1,r2⟩:=ih (i+1) (by omega) Hf _ N' Mf aN (λq hq=> by
    rw [aY (by omega),aga q (by omega),hlow q hq]) (λj lj hj1 hlj=> by
    by_cases hji:j=i
    ·subst hji;rw [hl] at hlj;cases hlj;rw [hNi];exact Ia.ext λs hs=> by
      obtain⟨h1,h2⟩:=hal s hs;rw [aY (by omega),h2]
    ·rw [hN j (by omega)];refine(hnd j lj (by omega) hlj).ext λs hs=> ?_;have hlt:=hNl j (by omega) s hs;have hne:N j s≠K:=λe=> by
      have I:=hnd j lj (by omega) hlj;obtain⟨l',hg⟩:=I.some hs;obtain⟨h0,h1,h2,h3,h4,h5⟩:=I;have hh:(gi (N j s)).map (λl=> l[10]?)=some (some (.seq 1 (nT N i))):=by rw [e,hm];rfl
      match s,hs with
      | 0,_=> rw [h0] at hh;simp [uP,FC,Cfg.av,dF.av] at hh
      | 1,_=> rw [h1] at hh;simp [bJ] at hh
      | 2,_=> rw [h2] at hh;simp [oP] at hh
      | 3,_=> rw [h3] at hh;simp [Ae,Cfg.av] at hh
      | 4,_=> rw [h4] at hh;simp [Bo,Cfg.av] at hh
      | 5,_=> rw [h5] at hh;simp [gU] at hh
     rw [aY hne,aga _ hlt]) (λj k s t hj1 hk1 hs ht e=> by
    by_cases hji:j=i
    ·by_cases hki:k=i
     ·subst hji;subst hki;rw [hNi] at e;exact⟨rfl,Ia.inj hs ht e⟩
     ·subst hji;rw [hNi,hN k (by omega)] at e;have:=(hal s hs).1;have:=hNl k (by omega) t ht;omega
    ·by_cases hki:k=i
     ·subst hki;rw [hNi,hN j (by omega)] at e;have:=(hal t ht).1;have:=hNl j (by omega) s hs;omega
     ·rw [hN j (by omega),hN k (by omega)] at e;exact hj j k s t (by omega) (by omega) hs ht e)
   refine⟨H',g',N'',?_,r2⟩;rw [RP];have eb:=gZ (e:=51) (m:=1) (z:=[zP]) (v:=.ref (a 0) 0 0) (H:=Ha) rfl rfl rfl;have ec:(AV.ref (a 0) 0 0).cells=[.ref (a 0) 0 0]:=rfl;rw [ec] at eb;simp only [o] at t1 t2;simp only [Nat.reduceLeDiff,xq_,hq_,h1,s1,s2,s4,hy,a1,ahF,zbm,eb,t1,t2,bI,h6,h7,r1]
 have hfl:f < H2.next:=M1.good.lt F1.1
 have ht:=M2.lt aN;obtain⟨H',g',N,r1,r2,r3,r4,r5,r6⟩:=key ps.length 0 (by omega) _ g0 (λ_ _=> 0) M0 aN (λq hq=> rfl) (λj l hj=> by omega) (λi j s t hi=> by omega);have hg0:∀q,q < H2.next->g0 q=gf q:=λq hq=> by simp only [g0];rw [aY (by omega),aY (by omega)]
 refine⟨H',{ A0 with N:=N },g',aX rfl rfl (aoU _ _ _ _ (r:=(_,H')) ?_),r2.wS,?_⟩
 ·have l7:(c.avx y)[7]?=some y:=rfl;have b0:nV Tryz.prog .neq 29 (I 0) (I 0)=some (B false):=by kernel_rfl
  have st7:st 1 (.ref H.next 0 7) (dat c.init) H0=some (aO,H1):=by
   simp only [H0,H1];rw [lS rfl];simp only [Nat.reduceAdd,aG,xq_,hq_,Cfg.avx,Cfg.av,hb]
   try rfl
  have em:bd 50 [(0,.ref f 0 0),(1,.ref t 0 0),(2,.agg c.av)]=some (.agg xs):=by
   simp only [xq_,ahL,jo,fJ,afb,Cfg.av,eH];rfl
  have el:=(hx.fV (H':=H3.new (.blk 0 50 xs)) (by have:=M12.next;simp only [dL];omega) λr hr=> by rw [M0.same r (by omega)];exact aS hr)
  obtain⟨cells,x1,_⟩:=el;have el:=x1.lnS;simp only [H0] at b1 e1 e2 e3 st7;simp only [H1] at e4 e5 st7 b2 b3;simp only [Nat.reduceLT,xq_,hq_,amS,aC (ji c hy.one),b1,e1,b0,e2,e3,l7,st7,e4,e5,b3,em,aC hall,el];exact r1
 ·refine⟨?_,?_,⟨?_,?_,rfl,rfl⟩,?_,?_,?_,?_⟩
  ·rw [r3];simp only [dG.new,zcg]
  ·rw [r4 t ht.2];simp only [g0];rw [aY (by omega),aN];rfl
  ·show g' f=_;rw [r4 f (by have:=M2.next;omega),hg0 f hfl,F1.1];rfl
  ·intro i p hp;have I:=F1.2.1 i p hp;exact I.ext λs hs=> by
    obtain⟨l,r,hg⟩:=I.some hs;have:=M1.good.lt hg;rw [r4 _ (by have:=M2.next;omega),hg0 _ this]
  ·intro i n hi;simp only [dG.new,za1,zbM] at hi;obtain⟨l,hl,rfl⟩:=hi;exact r5 i l (zak.1 hl).1 hl
  ·simp only [dG.new,Fab.new,za6];exact J1
  ·simp only [dG.new,zcg];exact r6
  ·show t≠f;omega
theorem TA(p:Pkt){d:Nat}:∀x∈p.av,Frz (d+2) x:=λx hx=> by
 simp only [Pkt.av,zar,zaH,or_false] at hx;rcases hx with rfl | rfl | rfl | rfl | rfl | rfl | rfl | rfl | rfl <;> first | exact dQ | exact nM
section
variable {b:Nat}{H:ah}{g:bg}{q:Nat}
theorem amh(a c:Bool):bi .neq 4 (B a) (B c)=some (B (a !=c)):=by
 rw [S9];cases a <;> cases c <;> rfl
theorem alB(G:Good b H g)(hb:H.base<=b){c:Cfg}{eF:Rows}(h:g q=some (Bo c eF))(aB state head:Int)(data:List Int)(hl:data.length < 1000000000):
  ∃H',cl 196 [.ref q 0 0,I aB,I state,I head,dat data] H=some (I (iY c eF aB state head data).2,H')/\Good b H' (upd g q (Bo c (iY c eF aB state head data).1))/\Step b H H':=by
 obtain⟨r,f1,f2,_⟩:=G.map h (i:=8) rfl;have f3:=f2 (.agg #[.int .i64 0,.int .i64 0,.slice none 0 0]) aB true;rw [sJ] at f3;have hb0:H.base<=H.next:=zas hb G.1
 refine jK rfl rfl (akZ _ _ _ _ _ _ _) ?_;cases hr:jM eF aB with
 | none=>
  simp only [hr,zcX,if_true] at f3;have hp:iY c eF aB state head data=(eF,3):=by simp only [iY,hr]
  have zc:AV.cells (.s (.agg #[.int .i64 0,.int .i64 0,.slice none 0 0]))=[zI,zI,zN]:=rfl;have zn:zN.aU=true:=rfl;rw [hp];refine⟨H.new (.blk 0 130 [zI,zI,zN]),?_,by rw [eU h];exact G.new _,Step.new _ G.1⟩;simp only [Int.reduceNeg,Nat.reduceAdd,aG,xq_,hq_,wR,f1,f3,zc,zn,hb0,zaf]
 | some w=>
  simp only [hr,zai,if_true] at f3;let H1:=H.new (.blk 0 130 w.av);have G1:Good b H1 g:=G.new _;have l0:=G1.load h (i:=0) (x:=I c.aP) rfl;have l2:=G1.load h (i:=2) (x:=I c.aQ) rfl;have e2:=λH=> (gI H data).lnS;have e5:=λH=> jy H data hl;by_cases hbad:state < 0∨2 < state∨head < -1∨c.aP<=head
  ·have hp:iY c eF aB state head data=(eF,1):=by simp only [iY,hr];rw [if_pos hbad]
   rw [hp];refine⟨H1,?_,by rw [eU h];exact G1,Step.new _ G.1⟩;simp only [H1] at l0 l2;by_cases s0:state < 0
   ·simp only [Int.reduceNeg,Nat.reduceAdd,aG,xq_,hq_,wR,f1,f3,hb0,zad,s0];rfl
   ·by_cases s2:2 < state
    ·simp only [Int.reduceNeg,Nat.reduceAdd,aG,xq_,hq_,wR,f1,f3,hb0,zad,s0,s2];rfl
    ·by_cases s3:head < -1
     ·simp only [Int.reduceNeg,Nat.reduceAdd,aG,xq_,hq_,wR,f1,f3,hb0,zad,s0,s2,s3];rfl
     ·have s4:c.aP<=head:=by omega
      simp only [Int.reduceNeg,Nat.reduceAdd,aG,xq_,hq_,wR,f1,f3,hb0,zad,s0,s2,s3,l0,s4];rfl
  ·have s0:¬state < 0:=λh=> hbad (.inl h);have s2:¬2 < state:=λh=> hbad (.inr (.inl h));have s3:¬head < -1:=λh=> hbad (.inr (.inr (.inl h)));have s4:¬c.aP<=head:=λh=> hbad (.inr (.inr (.inr h)));have hdl:decide (data≠[])=decide ((data.length:Int)≠0):=by
    cases data with
    | nil=> rfl
    | cons a l=>
     have:((a::l).length:Int)≠0:=by simp only [zah];omega
     simp only [this,ne_eq,not_false_eq_true,decide_true];rfl
   by_cases hw:((decide (head=-1) !=decide (state=0)) || (decide (data≠[]) && decide ((data.length:Int)≠c.aQ)))=true
   ·have hp:iY c eF aB state head data=(eF,1):=by simp only [iY,hr];rw [if_neg hbad,if_pos hw]
    rw [hp];refine⟨H1,?_,by rw [eU h];exact G1,Step.new _ G.1⟩;simp only [H1] at l0 l2;rw [hdl] at hw;cases hx:(decide (head=-1) !=decide (state=0)) with
    | true=>
     simp only [Int.reduceNeg,Nat.reduceAdd,aG,xq_,hq_,wR,f1,f3,hb0,zad,s0,s2,s3,l0,s4,amh,hx];rfl
    | false=>
     rw [hx,zbN,zaj] at hw;have w1:¬(data.length:Int)=0:=of_decide_eq_true hw.1;have w2:¬(data.length:Int)=c.aQ:=of_decide_eq_true hw.2;simp only [Int.reduceNeg,Nat.reduceAdd,Nat.reduceLeDiff,aG,xq_,hq_,wR,f1,f3,hb0,zad,zaf,s0,s2,s3,l0,s4,amh,hx,e2,w1,l2,w2];rfl
   ·have hp:iY c eF aB state head data=(nC eF aB ⟨state,head,if data=[] then w.data else data⟩,0):=by simp only [iY,hr];rw [if_neg hbad,if_neg hw]
    rw [hp];rw [hdl] at hw;have hx:(decide (head=-1) !=decide (state=0))=false:=by cases h1:(decide (head=-1) !=decide (state=0)) <;> simp_all
    rw [hx,zbN] at hw;let nr:Row:=⟨state,head,if data=[] then w.data else data⟩
    let H2:=H.new (.blk 0 130 nr.av);have G2:Good b H2 g:=G.new _;obtain⟨r',k1,_,_,k2⟩:=G2.map h (i:=8) rfl;obtain⟨H',m1,m2,m3,m4⟩:=(k2 hb).1 aB (.agg nr.av);refine⟨H',?_,?_,(Step.new _ G.1).trans m3⟩
    ·simp only [H1,Row.av] at l0 l2;simp only [H2,nr,Row.av] at k1 m1;by_cases hd:data=[]
     ·subst hd;simp only [if_true] at k1 m1;have z1:((([]:List Int).length:Nat):Int)=0:=rfl;have z2:(((0:Nat)):Int)=0:=rfl;simp only [Int.reduceLT,Int.reduceNeg,Nat.reduceAdd,aG,xq_,hq_,wR,CY,f1,f3,hb0,zad,s0,s2,s3,l0,s4,amh,hx,e2,z2,Row.av,k1,m1]
     ·have w1:¬(data.length:Int)=0:=λh=> hd (zan (by omega));have w3:(0:Int) < data.length:=by omega
      have w2:(data.length:Int)=c.aQ:=by
       rw [decide_eq_true (show(data.length:Int)≠0 from w1),zaI] at hw;exact Classical.byContradiction λh=> hw (decide_eq_true h)
      simp only [hd,if_false] at k1 m1;rw [w2] at w1 w3;simp only [Int.reduceNeg,Nat.reduceAdd,aG,xq_,hq_,wR,CY,f1,f3,hb0,zad,zaf,s0,s2,s3,l0,s4,amh,hx,e2,w2,l2,w1,w3,e5,Row.av,k1,m1]
    ·rw [zS (λr:Row=> AV.agg r.av)] at m2;exact m2
end
theorem U7 {c:Cfg}{eF:Rows}{aB state head:Int}{data:List Int}(h:(iY c eF aB state head data).2≠0):(iY c eF aB state head data).1=eF:=by
 unfold iY at h ⊢;cases hr:jM eF aB with
 | none=> rfl
 | some w=>
  rw [hr] at h;simp only at h ⊢;split at h
  ·rename_i h1;rw [if_pos h1]
  ·rename_i h1;rw [if_neg h1];split at h
   ·rename_i h2;rw [if_pos h2]
   ·exact absurd rfl h
section
variable {b:Nat}{H:ah}{g:bg}{q d tt:Nat}{c:Cfg}{me:Int}{h:Home}
theorem lT.sub {g':bg}(N:lT g q d tt c me h)(hs:uf g g'):lT g' q d tt c me h:=⟨hs _ _ N.1,hs _ _ N.2.1,hs _ _ N.2.2⟩
theorem Hu(G:Good b H g)(N:lT g q d tt c me h)(hd:∀e∈h.eF,e.2.data.length < 1000000000)(aB who id:Int):
  cl 141 [.ref q 0 0,I aB,I who,I id] H=some (.agg (qF h.eF me aB who id).av,H):=by
 refine aV rfl rfl (akj _ _ _ _ _ _) ?_ (lI (TA _));have G1:=G.guard.new (.blk 0 99 [zI,zI,zI,zI,zI,zI,zI,zB,zN]);have l1:=G1.load N.1 (i:=0) (x:=.ref d 0 0) rfl;have e1:=aev G1 N.2.1 hd aB;have G2:=G1.new (.blk 0 130 (oL h.eF aB).av);have l2:=G2.load N.1 (i:=10) (x:=I me) rfl;have lr0:(oL h.eF aB).av[0]?=some (I (oL h.eF aB).state):=rfl;have lr1:(oL h.eF aB).av[1]?=some (I (oL h.eF aB).head):=rfl;have lr2:(oL h.eF aB).av[2]?=some (dat (oL h.eF aB).data):=rfl;simp only [Nat.reduceAdd,Nat.reduceLeDiff,aG,xq_,hq_,adX,l1,e1,l2,lr0,lr1,lr2,xw,jo,fJ,PG,qF,Pkt.av]
def kC(g:bg)(d tt:Nat)(c:Cfg)(h:Home):bg:=upd (upd g d (Bo c h.eF)) tt (gU h.bV)
theorem lT.ne(N:lT g q d tt c me h):q≠d/\q≠tt/\d≠tt:=by
 refine⟨λe=> ?_,λe=> ?_,λe=> ?_⟩
 ·have h1:=N.1;have h2:=N.2.1;subst e;rw [h1] at h2;have:=congrArg List.length (zaX h2);simp [Ae,Bo,Cfg.av] at this
 ·have h1:=N.1;have h2:=N.2.2;subst e;rw [h1] at h2;have:=congrArg List.length (zaX h2);simp [Ae,gU,Cfg.av] at this
 ·have h1:=N.2.1;have h2:=N.2.2;subst e;rw [h1] at h2;have:=congrArg List.length (zaX h2);simp [Bo,gU,Cfg.av] at this
theorem lT.agy(N:lT g q d tt c me h)(h':Home):lT (kC g d tt c h') q d tt c me h':=by
 obtain⟨n1,n2,n3⟩:=N.ne;exact⟨by unfold kC;rw [aY n2,aY n1];exact N.1,by unfold kC;rw [aY n3,aN],by unfold kC;rw [aN]⟩
theorem Dh(N:lT g q d tt c me h):kC g d tt c h=g:=by
 obtain⟨n1,n2,n3⟩:=N.ne;unfold kC;rw [eU N.2.1,eU N.2.2]
theorem NQ {g':bg}(h:uf g g')(h':Home):uf (kC g d tt c h') (kC g' d tt c h'):=(h.both d _).both tt _
theorem xK(N:lT g q d tt c me h)(t:Turns):kC g d tt c { h with bV:=t }=upd g tt (gU t):=by
 unfold kC;rw [eU N.2.1]
theorem Y7(G:Good b H g)(hb:H.base<=b)(N:lT g q d tt c me h)(p:Pkt)(hl:p.data.length < 1000000000):
  ∃H',cl 173 [.ref q 0 0,.agg p.av] H=some (I (h.unlock c p).2,H')/\Good b H' (kC g d tt c (h.unlock c p).1)/\Step b H H':=by
 have hb0:H.base<=H.next:=zas hb G.1
 obtain⟨n1,n2,n3⟩:=N.ne;refine jK rfl rfl (akP _ _ _ _) ?_;let H1:=H.new (.blk 0 99 p.av);have G1:=G.newObj (ty:=99) (xs:=p.av) (aK p);have S1:uf g (upd g H.next (p.av.map Cell.av)):=(uf.refl g).more (G.isNone (zac _)) _;have N1:=N.sub S1;have l1:=G1.load N1.1 (i:=1) (x:=.ref tt 0 0) rfl;have o1:=Hg G1.guard N1.2.2 p.aB;have p1:=G1.load aN (i:=1) (x:=I p.src) rfl;have p4:=G1.load aN (i:=4) (x:=I p.aB) rfl;have p5:=G1.load aN (i:=5) (x:=I p.ptr) rfl;have p6:=G1.load aN (i:=6) (x:=I p.state) rfl;have p7:=G1.load aN (i:=7) (x:=B p.flag) rfl;have p8:=G1.load aN (i:=8) (x:=dat p.data) rfl;by_cases ho:h.bV.owner p.aB=p.src;rotate_left
 ·have hp:h.unlock c p=(h,6):=by simp only [Home.unlock];rw [if_pos ho]
  rw [hp,Dh N];refine⟨H1,?_,G1.sub S1,Step.new _ G.1⟩;simp only [Nat.reduceLT,xq_,GV,aC (aK p),l1,p4,o1,p1,ho,zaf];rfl
 ·have l0:=G1.load N1.1 (i:=0) (x:=.ref d 0 0) rfl;let dd:=if p.flag then p.data else [];obtain⟨H2,s1,s2,s3⟩:=alB G1 (by rw [iC];exact hb) N1.2.1 p.aB p.state p.ptr dd (by simp only [dd];split <;> first | exact hl | exact(by simp));have hd0:dat ([]:List Int)=zN:=by simp [dat,gB]
  have fl:∀k:AV->Option (AV × ah),(if p.flag=true then k (dat p.data) else k zN)=k (dat dd):=λk=> by
   simp only [dd];cases p.flag with
   | true=> rfl
   | false=> simp only [zal,if_false,hd0]
  by_cases hz:(iY c h.eF p.aB p.state p.ptr dd).2=0;rotate_left
  ·have hp:h.unlock c p=(h,(iY c h.eF p.aB p.state p.ptr dd).2):=by
    simp only [Home.unlock];rw [if_neg (λhn=> hn ho),if_neg hz]
   rw [hp,Dh N];rw [U7 hz,eU N1.2.1] at s2;refine⟨H2,?_,s2.sub S1,(Step.new _ G.1).trans s3⟩;have hz':¬(iY c h.eF p.aB p.state p.ptr dd).2=0:=hz;cases hf:p.flag with
   | true=>
    have:dd=p.data:=by simp only [dd,hf,if_true]
    rw [this] at s1 hz' ⊢;rw [hf] at p7;simp only [Nat.reduceLT,xq_,GV,vP,aC (aK p),l1,p4,o1,p1,ho,zad,p7,p8,l0,p6,p5,s1,hz',zaf]
   | false=>
    have:dd=[]:=by simp only [dd,hf,zal,if_false]
    rw [this,hd0] at s1;rw [this] at hz' ⊢;rw [hf] at p7;simp only [Nat.reduceLT,xq_,GV,vP,aC (aK p),l1,p4,o1,p1,ho,zad,p7,p8,l0,p6,p5,s1,hz',zaf]
  ·have hp:h.unlock c p=(⟨(iY c h.eF p.aB p.state p.ptr dd).1,(h.bV.release p.aB p.src).1⟩,(h.bV.release p.aB p.src).2):=by
    simp only [Home.unlock];rw [if_neg (λhn=> hn ho),if_pos hz]
   rw [hp];have hqn:=G.ne N.2.2;have hdn:=G.ne N.2.1;have hhn:=G.ne N.1;have k1:upd (upd g H.next (p.av.map Cell.av)) d (Bo c (iY c h.eF p.aB p.state p.ptr dd).1) H.next=some (p.av.map Cell.av):=by rw [aY hdn.symm,aN]
   have k2:upd (upd g H.next (p.av.map Cell.av)) d (Bo c (iY c h.eF p.aB p.state p.ptr dd).1) q=some (Ae d tt c me):=by rw [aY n1];exact N1.1
   have k3:upd (upd g H.next (p.av.map Cell.av)) d (Bo c (iY c h.eF p.aB p.state p.ptr dd).1) tt=some (gU h.bV):=by rw [aY n3.symm];exact N1.2.2
   have r1:=s2.load k1 (i:=1) (x:=I p.src) rfl;have r4:=s2.load k1 (i:=4) (x:=I p.aB) rfl;have rl:=s2.load k2 (i:=1) (x:=.ref tt 0 0) rfl;obtain⟨H3,t1,t2,t3⟩:=ND s2 (by rw [s3.base,iC];exact hb) k3 p.aB p.src;refine⟨H3,?_,t2.sub (NQ S1 _),((Step.new _ G.1).trans s3).trans t3⟩;rw [hz] at s1;cases hf:p.flag with
   | true=>
    have:dd=p.data:=by simp only [dd,hf,if_true]
    rw [this] at s1;rw [hf] at p7;simp only [Nat.reduceLT,xq_,GV,vP,aC (aK p),l1,p4,o1,p1,ho,zad,p7,p8,l0,p6,p5,s1,rl,r1,r4,t1]
   | false=>
    have:dd=[]:=by simp only [dd,hf,zal,if_false]
    rw [this,hd0] at s1;rw [hf] at p7;simp only [Nat.reduceLT,xq_,GV,vP,aC (aK p),l1,p4,o1,p1,ho,zad,p7,p8,l0,p6,p5,s1,rl,r1,r4,t1]
end
section
variable {b:Nat}{H:ah}{g:bg}{q d tt:Nat}{c:Cfg}{me:Int}{h:Home}
abbrev zP9:List AV:=[zI,zI,zI,zI,zI,zI,zI,zB,zN]
def TB(r:Home × Pkt × Bool × Int):AV:=.tup [.agg r.2.1.av,B r.2.2.1,I r.2.2.2]
theorem Y8(G:Good b H g)(hb:H.base<=b)(N:lT g q d tt c me h)(hc:c.ok=true)(hw:(h.bV.wait.map (·.1)).Nodup)(hwl:∀aB,(h.bV.ws aB).length < 1000000)(hr:∀e∈h.eF,e.2.data.length < 1000000000)(p:Pkt)(hl:p.data.length < 1000000000):
  ∃H',cl 143 [.ref q 0 0,.agg p.av] H=some (TB (h.handle c me p),H')/\Good b H' (kC g d tt c (h.handle c me p).1)/\Step b H H':=by
 have hb0:H.base<=H.next:=zas hb G.1
 obtain⟨n1,n2,n3⟩:=N.ne;refine jK rfl rfl (akm _ _ _ _) ?_;let H1:=H.new (.blk 0 99 p.av);let H2:=H1.new (.blk 0 99 zP9);have Ga:=G.newObj (ty:=99) (xs:=p.av) (aK p);have G2:=Ga.newObj (ty:=99) (xs:=zP9) rfl;let g2:=upd (upd g H.next (p.av.map Cell.av)) (H.next+1) (zP9.map Cell.av);have e12:(H.new (.blk 0 99 p.av)).next=H.next+1:=dL
 have S2:uf g g2:=((uf.refl g).more (G.isNone (zac _)) _).more (G.isNone (za8 _)) _;have N2:=N.sub S2;have st2:Step b H H2:=(Step.new _ G.1).trans (Step.new _ (G.new _).1);have hp1:g2 H.next=some (p.av.map Cell.av):=by simp only [g2];rw [aY (by omega),aN]
 have hp2:g2 (H.next+1)=some (zP9.map Cell.av):=aN;have G2':Good b H2 g2:=G2;have p0:=G2'.load hp1 (i:=0) (x:=I p.bf) rfl;have p1:=G2'.load hp1 (i:=1) (x:=I p.src) rfl;have p2:=G2'.load hp1 (i:=2) (x:=I p.dst) rfl;have p3:=G2'.load hp1 (i:=3) (x:=I p.id) rfl;have p4:=G2'.load hp1 (i:=4) (x:=I p.aB) rfl;have pa:=G2'.loads hp1 (i:=0) (n:=9) (xs:=p.av) rfl rfl (by decide);have l10:=G2'.load N2.1 (i:=10) (x:=I me) rfl;have l2:=G2'.load N2.1 (i:=2) (x:=I c.aP) rfl;have l3:=G2'.load N2.1 (i:=3) (x:=I c.aW) rfl;have la:=G2'.loads N2.1 (i:=2) (n:=8) (xs:=c.av) rfl rfl (by decide);have lt:=G2'.load N2.1 (i:=1) (x:=.ref tt 0 0) rfl;have ck:=yV H2 p;have ho:=uO H2.guard c hc p.aB;have ez:bd 99 []=some (.agg zP9):=by simp only [xq_,xw,jo,dH]
 -- the zero packet is laid anew
 have zst:∀{K:ah} {gk:bg},Good b K gk->K.base<=b->gk (H.next+1)=some (zP9.map Cell.av)->∀{y:List AV},y.length=9->y.all AV.aU=true->∃K',st 9 (.ref (H.next+1) 0 0) (.agg y) K=some (aO,K')/\lda 9 (.ref (H.next+1) 0 0) K'=some (.agg y,K')/\Good b K' (upd gk (H.next+1) (y.map Cell.av))/\Step b K K':=by
  intro K gk Gk hk hz y hy ha;obtain⟨K',t1,t2,t3,t4⟩:=Gk.stores hk hz (i:=0) (n:=9) (vs:=y) (by simp) hy ha;have e:pO (zP9.map Cell.av) 0 y=y.map Cell.av:=by
   unfold pO;rw [zaF (by simp [hy])];simp
  rw [e] at t2;exact⟨K',t1,t2.loads aN (i:=0) (n:=9) (xs:=y) (by rw [zaO,zaE (by simp [hy])]) hy (by decide),t2,t3⟩
 obtain⟨Hz,z1,z2,z3,z4⟩:=zst G2' (by simp only [H2,H1,iC];exact hb) hp2 (y:=zP9) rfl rfl;have Sz:∀{gk:bg} {y:List Cell},uf gk (upd gk (H.next+1) y)->True:=λ_=> trivial;have zg:Good b Hz g:=z3.sub λq' cs h=> by
  have hne:q'≠H.next+1:=λe=> by
   have:=G.lt h;omega
  rw [aY hne];exact S2 _ _ h
 simp only [H2,H1] at p0 p1 p2 p3 p4 pa l10 l2 l3 la lt ck ho z1 z2;have bad:∀e:Int,h.handle c me p=(h,.zero,false,e)->∀H',H'=Hz->Good b H' (kC g d tt c (h.handle c me p).1)/\Step b H H':=λe he H' hH=> by
  rw [he,Dh N,hH];exact⟨zg,st2.trans z4⟩
 by_cases h1:(!(p.ok && decide (p.dst=me) && decide (p.src < c.aP)) || (decide (p.bf≠1) && decide (p.bf≠2)))=true
 ·have hp:h.handle c me p=(h,.zero,false,1):=by simp only [Home.handle];rw [if_pos h1]
  refine⟨Hz,?_,bad 1 hp Hz rfl⟩;rw [hp];cases hok:p.ok with
  | false=>
   rw [hok] at ck;simp only [Nat.reduceLT,Int.reduceEq,xq_,qV,aC (aK p),pa,ck,zaf,ez,z1,z2,TB,eP]
  | true=>
   rw [hok] at ck h1;by_cases hds:p.dst=me
   ·by_cases hsr:p.src < c.aP
    ·simp only [hds,hsr,decide_true,zcA,zad,zbN,zaj,decide_eq_true_eq] at h1;have k1:=h1.1;have k2:=h1.2;simp only [ne_eq] at k1 k2;simp only [Nat.reduceLT,xq_,qV,aC (aK p),pa,ck,p2,l10,hds,p1,l2,hsr,zad,zaf,p0,k1,k2,ez,z1,z2,TB,eP]
    ·simp only [Nat.reduceLT,xq_,qV,aC (aK p),pa,ck,p2,l10,hds,p1,l2,hsr,zaf,ez,z1,z2,TB,eP]
   ·simp only [Nat.reduceLT,xq_,qV,aC (aK p),pa,ck,p2,l10,hds,zaf,ez,z1,z2,TB,eP]
 ·have hcond:p.ok=true/\p.dst=me/\p.src < c.aP/\(p.bf=1∨p.bf=2):=by
   simp only [zbs,zbf,zcQ,decide_eq_false_iff_not,zaj,decide_eq_true_eq,not_or,not_and,Classical.not_not] at h1;obtain⟨⟨⟨a1,a2⟩,a3⟩,a4⟩:=h1;refine⟨by simpa using a1,a2,a3,?_⟩;by_cases hk:p.bf=1
   ·exact .inl hk
   ·exact .inr (a4 hk)
  obtain⟨hok,hds,hsr,hkind⟩:=hcond;rw [hok] at ck;have hk12:(p.bf=1/\True)∨(¬p.bf=1/\p.bf=2):=by
   rcases hkind with hk | hk
   ·exact .inl ⟨hk,trivial⟩
   ·exact .inr ⟨by omega,hk⟩
  by_cases h2:c.fA p.aB≠me∨c.aW<=p.aB
  ·have hp:h.handle c me p=(h,.zero,false,3):=by simp only [Home.handle];rw [if_neg h1,if_pos h2]
   refine⟨Hz,?_,bad 3 hp Hz rfl⟩;rw [hp];rcases hk12 with⟨hk,_⟩ | ⟨hk0,hk⟩
   ·by_cases hh:c.fA p.aB=me
    ·have hl2:c.aW<=p.aB:=h2.resolve_left (λh=> h hh);simp only [Nat.reduceLT,Nat.reduceAdd,xq_,qV,aC (aK p),pa,ck,p2,l10,hds,p1,l2,hsr,zad,p0,hk,la,p4,ho,hh,l3,hl2,ez,z1,z2,TB,eP]
    ·simp only [Nat.reduceLT,xq_,qV,aC (aK p),pa,ck,p2,l10,hds,p1,l2,hsr,zad,zaf,p0,hk,la,p4,ho,hh,ez,z1,z2,TB,eP]
   ·by_cases hh:c.fA p.aB=me
    ·have hl2:c.aW<=p.aB:=h2.resolve_left (λh=> h hh);simp only [Nat.reduceLT,Int.reduceEq,Nat.reduceAdd,xq_,qV,aC (aK p),pa,ck,p2,l10,hds,p1,l2,hsr,zad,zaf,p0,hk,la,p4,ho,hh,l3,hl2,ez,z1,z2,TB,eP]
    ·simp only [Nat.reduceLT,Int.reduceEq,xq_,qV,aC (aK p),pa,ck,p2,l10,hds,p1,l2,hsr,zad,zaf,p0,hk,la,p4,ho,hh,ez,z1,z2,TB,eP]
  ·have hh:c.fA p.aB=me:=Classical.byContradiction λh=> h2 (.inl h);have hl2:¬c.aW<=p.aB:=λh=> h2 (.inr h);rcases hk12 with⟨hk,_⟩ | ⟨hk0,hk⟩
   ·obtain⟨K1,a1,a2,a3⟩:=abG G2' (by simp only [H2,H1,iC];exact hb) N2.2.2 hw p.aB p.src p.id (hwl p.aB);have NK:=N2.agy { h with bV:=(h.bV.ask p.aB p.src p.id).1 };rw [xK N2] at NK;have hqt:tt≠H.next:=G.ne N.2.2
    have alC:tt≠H.next+1:=by have:=G.lt N.2.2;omega
    have k1:upd g2 tt (gU (h.bV.ask p.aB p.src p.id).1) H.next=some (p.av.map Cell.av):=by rw [aY hqt.symm];exact hp1
    have k2:upd g2 tt (gU (h.bV.ask p.aB p.src p.id).1) (H.next+1)=some (zP9.map Cell.av):=by rw [aY alC.symm];exact hp2
    have hbK:K1.base<=b:=by rw [a3.base];simp only [H2,H1,iC];exact hb
    have fin:∀{K2:ah} {y:List Cell},Good b K2 (upd (upd g2 tt (gU (h.bV.ask p.aB p.src p.id).1)) (H.next+1) y)->Good b K2 (kC g d tt c { h with bV:=(h.bV.ask p.aB p.src p.id).1 }):=λGk=> Gk.sub (by
     rw [xK N];refine((S2.both tt _).more (yj (G.isNone (za8 _)) alC.symm) _))
    have kk:¬((1:Int)=2):=by decide
    simp only [H2,H1] at a1;cases ha:(h.bV.ask p.aB p.src p.id).2 with
    | false=>
     have hp:h.handle c me p=({ h with bV:=(h.bV.ask p.aB p.src p.id).1 },.zero,false,0):=by
      simp only [Home.handle];rw [if_neg h1,if_neg h2,if_pos hk];rw [if_neg (by rw [ha];decide)]
     rw [hp];rw [ha] at a1;obtain⟨K2,y1,y2,y3,y4⟩:=zst a2 hbK k2 (y:=zP9) rfl rfl;refine⟨K2,?_,fin y3,(st2.trans a3).trans y4⟩;simp only [Nat.reduceLT,Nat.reduceAdd,xq_,qV,aC (aK p),pa,ck,p2,l10,hds,p1,l2,hsr,zad,zaf,p0,hk,la,p4,ho,hh,l3,hl2,lt,p3,a1,ez,y1,y2,TB,eP]
    | true=>
     have hp:h.handle c me p=({ h with bV:=(h.bV.ask p.aB p.src p.id).1 },qF h.eF me p.aB p.src p.id,true,0):=by
      simp only [Home.handle];rw [if_neg h1,if_neg h2,if_pos hk];rw [if_pos ha]
     rw [hp];rw [ha] at a1;have q1:=a2.load k1 (i:=1) (x:=I p.src) rfl;have q3:=a2.load k1 (i:=3) (x:=I p.id) rfl;have q4:=a2.load k1 (i:=4) (x:=I p.aB) rfl;have gr:=Hu a2 NK hr p.aB p.src p.id;obtain⟨K2,y1,y2,y3,y4⟩:=zst a2 hbK k2 (y:=(qF h.eF me p.aB p.src p.id).av) (bH _) (aK _);refine⟨K2,?_,fin y3,(st2.trans a3).trans y4⟩;simp only [Nat.reduceLT,Nat.reduceAdd,xq_,qV,aC (aK p),pa,ck,p2,l10,hds,p1,l2,hsr,zad,p0,hk,la,p4,ho,hh,l3,hl2,lt,p3,a1,q1,q3,q4,gr,y1,y2,TB]
   ·obtain⟨K1,a1,a2,a3⟩:=Y7 G2' (by simp only [H2,H1,iC];exact hb) N2 p hl;have hqt:tt≠H.next:=G.ne N.2.2
    have alC:tt≠H.next+1:=by have:=G.lt N.2.2;omega
    have hqd:d≠H.next:=G.ne N.2.1
    have ao6:d≠H.next+1:=by have:=G.lt N.2.1;omega
    have k1:kC g2 d tt c (h.unlock c p).1 H.next=some (p.av.map Cell.av):=by unfold kC;rw [aY hqt.symm,aY hqd.symm];exact hp1
    have k2:kC g2 d tt c (h.unlock c p).1 (H.next+1)=some (zP9.map Cell.av):=by unfold kC;rw [aY alC.symm,aY ao6.symm];exact hp2
    have NK:=N2.agy (h.unlock c p).1;have hbK:K1.base<=b:=by rw [a3.base];simp only [H2,H1,iC];exact hb
    have fin:∀{K2:ah} {y:List Cell},Good b K2 (upd (kC g2 d tt c (h.unlock c p).1) (H.next+1) y)->Good b K2 (kC g d tt c (h.unlock c p).1):=λGk=> Gk.sub (by
     refine((NQ S2 _).more ?_ _);unfold kC;rw [aY alC.symm,aY ao6.symm];exact G.isNone (za8 _))
    have kk:¬((2:Int)=1):=by decide
    simp only [H2,H1] at a1;by_cases hz:(h.unlock c p).2=0
    ·have hp:h.handle c me p=((h.unlock c p).1,⟨8,me,p.src,p.id,p.aB,0,0,false,[]⟩,true,0):=by
      simp only [Home.handle];rw [if_neg h1,if_neg h2,if_neg hk0,if_pos hz]
     rw [hp];rw [hz] at a1;have q1:=a2.load k1 (i:=1) (x:=I p.src) rfl;have q3:=a2.load k1 (i:=3) (x:=I p.id) rfl;have q4:=a2.load k1 (i:=4) (x:=I p.aB) rfl;have q10:=a2.load NK.1 (i:=10) (x:=I me) rfl;have hd0:dat ([]:List Int)=zN:=by simp [dat,gB]
     obtain⟨K2,y1,y2,y3,y4⟩:=zst a2 hbK k2 (y:=(Pkt.mk 8 me p.src p.id p.aB 0 0 false []).av) (bH _) (aK _);refine⟨K2,?_,fin y3,(st2.trans a3).trans y4⟩;have eb:bd 99 [(0,I 8),(1,I me),(2,I p.src),(3,I p.id),(4,I p.aB)]=some (.agg (Pkt.mk 8 me p.src p.id p.aB 0 0 false []).av):=by
      simp only [xq_,xw,jo,fJ,PG,Pkt.av,hd0];rfl
     simp only [Nat.reduceLT,Nat.reduceAdd,xq_,qV,aC (aK p),pa,ck,p2,l10,hds,p1,l2,hsr,zad,zaf,p0,hk,kk,la,p4,ho,hh,l3,hl2,a1,q10,q1,q3,q4,eb,y1,y2,TB]
    ·have hp:h.handle c me p=((h.unlock c p).1,.zero,false,(h.unlock c p).2):=by
      simp only [Home.handle];rw [if_neg h1,if_neg h2,if_neg hk0,if_neg hz]
     rw [hp];obtain⟨K2,y1,y2,y3,y4⟩:=zst a2 hbK k2 (y:=zP9) rfl rfl;refine⟨K2,?_,fin y3,(st2.trans a3).trans y4⟩;simp only [Nat.reduceLT,Nat.reduceAdd,xq_,qV,aC (aK p),pa,ck,p2,l10,hds,p1,l2,hsr,zad,zaf,p0,hk,kk,la,p4,ho,hh,l3,hl2,a1,hz,ez,y1,y2,TB,eP]
end
theorem Y9(l:List Int):(l.mergeSort λx y=> decide (x<=y))=srt [] l:=by
 have tr:∀a b c:Int,decide (a<=b)=true->decide (b<=c)=true->decide (a<=c)=true:=λa b c h1 h2=> by simp only [decide_eq_true_eq] at*;omega
 have to:∀a b:Int,(decide (a<=b) || decide (b<=a))=true:=λa b=> by simp only [zbs,decide_eq_true_eq];omega
 exact(adp (List.mergeSort_perm l _).symm ((List.pairwise_mergeSort tr to l).imp λh=> of_decide_eq_true h)).symm
theorem TD(l:List Int):LV l=dat (srt [] l):=by
 unfold LV;split
 ·rename_i h;subst h;simp [dat,gB,srt,aaU]
 ·rename_i h;have hp:=(vJ l [] List.Pairwise.nil).1;have hl:(srt [] l).length=l.length:=hp.length_eq;have hne:srt [] l≠[]:=λe=> h (by rw [e] at hl;exact zan hl.symm);rw [qW hne,Y9,hl]
section
variable {b:Nat}{H:ah}{g:bg}{q d tt:Nat}{c:Cfg}{me:Int}{h:Home}
structure TOk(t:Turns):Prop where
 nd:(t.wait.map (·.1)).Nodup
 key:∀e∈t.wait,0<=e.1/\e.1 < 1000
 len:t.wait.length < 1000
 ws:∀aB,(t.ws aB).length < 1000000
theorem Hw(G:Good b H g){t:Turns}(h:g q=some (gU t))(T:TOk t):cl 137 [.ref q 0 0] H=some (dat (t.ready (srt [] (t.wait.map (·.1)))),H):=by
 obtain⟨r,aes,f1,f2,f3,f4⟩:=G.guard.agl h (i:=1) rfl;have f4:aes.map (·.1)=t.wait.map (·.1):=by rw [f4];simp
 let H1:=H.guard.new (.blk 0 202 [.mp r]);have k1:cl 169 [.mp r] H.guard=some (.fn (.func 195) [] [.ref H.next 0 0],H1):=by
  refine aX rfl rfl (akJ _ _ _ ?_);have eb:fM 202 (.mp r) H.guard=some (.ref H.next 0 0,H1):=rfl;simp only [xq_,aeg,eb]
 have k2:cl 60 [.fn (.func 195) [] [.ref H.next 0 0]] H1=some (dat (srt [] (t.wait.map (·.1))),H1):=by
  refine wZ (p:=qG wP pX) rfl ?_;have g1:H1.get H.next=.blk 0 202 [.mp r]:=aJ rfl
  have g2:H1.get r=.map .i64 aes:=by rw [<-f3];exact aS f2
  have hc:(True/\202 < fQ/\195≠0/\195∈wP/\(aes.map (·.1)).Nodup/\(aes.all λe=> (Lit.int .i64 e.1).wf)=true/\aes.length<=1000000):=by
   refine⟨trivial,by unfold fQ;decide,by decide,by simp [wP],by rw [f4];exact T.nd,?_,?_⟩
   ·rw [zaZ];intro e he;have:e.1∈t.wait.map (·.1):=by rw [<-f4];exact zaS.2 ⟨e,he,rfl⟩
    obtain⟨x,hx,hxe⟩:=zaS.1 this;have:=T.key x hx;have m1:IntKind.min .i64=-9223372036854775808:=rfl;have m2:IntKind.max .i64=9223372036854775807:=rfl;simp only [Lit.wf,m1,m2,zaj,decide_eq_true_eq];rw [<-hxe];omega
   ·have:=congrArg List.length f4;simp only [zax] at this;have:=T.len;omega
  simp only [qG,g1,g2];rw [if_pos hc,f4,TD]
 have hsp:=vJ (t.wait.map (·.1)) [] List.Pairwise.nil;obtain⟨K,hK0⟩:∃K,K=srt [] (t.wait.map (·.1)):=⟨_,rfl⟩
 rw [<-hK0] at k2 hsp ⊢;have hK:K.length < 1000:=by have:=hsp.1.length_eq;simp only [zaU,zax] at this;have:=T.len;omega
 have hs:∀H',aH H' (dat K) 1 K.length (K.map I):=λH'=> gI H' K;let p:Int->Bool:=λaB=> !t.owned aB && !(t.ws aB).isEmpty
 let F:Nat->List Int:=λj=> (K.take j).filter p
 have key:∀k j,j+k=K.length->∀(Hi:ah) (o:AV),Own H.next Hi o 1 ((F j).map I)->(F j=[]->o=zN)->Step H.next H.guard Hi->
   ∃y Hz,CB cl [.ref q 0 0,o,dat K,I K.length,I j] Hi=some (y,Hz)/\Own H.next Hz y 1 ((t.ready K).map I)/\(t.ready K=[]->y=zN):=by
  intro k
  induction k with
  | zero=>
   intro j hj Hi o O z s;have h1:¬(j:Int) < K.length:=by omega
   have:F j=t.ready K:=by
    simp only [F,Turns.ready,p];rw [zaE (by omega)]
   rw [this] at O z;refine⟨o,Hi,?_,O,z⟩;rw [Sl];simp only [xq_,h1]
  | succ k ih=>
   intro j hj Hi o O z s;have h1:(j:Int) < K.length:=by omega
   have h6:(j:Int)+1=((j+1:Nat):Int):=by omega
   have h7:=wrap_i64 (a:=((j+1:Nat):Int)) (by omega) (by omega);have sb:Hi.base=H.next:=s.base
   have sn:H.next<=Hi.next:=s.next
   obtain⟨e,he⟩:∃e,K[j]?=some e:=⟨_,zab (by omega)⟩
   have s1:=(hs Hi).ix (k:=.i64) (i:=(j:Int)) (by omega) h1;rw [zao] at s1;have s2:=(hs Hi).ld (i:=j) (by omega);rw [zaD,he] at s2;simp only [zai] at s2;have Gi:Good b Hi g:=G.guard.ext s.next s.low
   have o1:=vV Gi h e;have w1:=uS Gi h e;have hFs:F (j+1)=F j++if p e=true then [e] else []:=by
    simp only [F,zc9,he,zc1,zcc]
    congr 1
    cases hp:p e <;> simp [hp]
   have hm:(F j).length<=j:=zas (zbS _ _) (by rw [zav];omega);rw [Sl];cases hp:p e with
   | true=>
    rw [hp,if_pos rfl] at hFs;have ho:t.owned e=false:=by simp only [p,zaj,zbf] at hp;exact hp.1
    have hw:(0:Int) < (t.ws e).length:=by
     simp only [p,zaj,zbf] at hp;cases hz:t.ws e with
     | nil=> rw [hz] at hp;simp at hp
     | cons a l=> simp only [zah];omega
    obtain⟨o',H2,t1,t2,t3⟩:=(O.new (.blk 0 3 [I e])).step (n:=(F j).length) (k:=1) (e:=3) (by_:=8) (y:=.sl Hi.next 0 0 1 1 1 true) (new:=[I e]) (by simp only [dL];omega) (by simp only [iC];omega) (by decide) (by simp) (jI rfl) rfl (by unfold most;omega) (by unfold most;omega);obtain⟨y,Hz,r1,r2⟩:=ih (j+1) (by omega) H2 o' (by rw [hFs,zbr];exact t2) (λhz=> by rw [hFs] at hz;simp at hz) ((s.trans (Step.new _ sn)).trans t3);refine⟨y,Hz,?_,r2⟩;rw [ho] at o1;have eb:∀H,bs 22 1 [(0,I e)] H=some (.sl H.next 0 0 1 1 1 true,H.new (.blk 0 3 [I e])):=λH=> (LD (by decide)).trans (gZ rfl rfl rfl);simp only [xq_,h1,s1,s2,o1,w1,hw,zaf,eb,t1,yL,bI,h6,h7];exact r1
   | false=>
    rw [hp,if_neg (by simp),zbb] at hFs;obtain⟨y,Hz,r1,r2⟩:=ih (j+1) (by omega) Hi o (by rw [hFs];exact O) (by rw [hFs];exact z) s;refine⟨y,Hz,?_,r2⟩;cases ho:t.owned e with
    | true=>
     rw [ho] at o1;simp only [xq_,h1,s1,s2,o1,zad,yL,bI,h6,h7];exact r1
    | false=>
     rw [ho] at o1;have hw:¬(0:Int) < (t.ws e).length:=by
      simp only [p,ho,zaf,zaI,Bool.not_eq_false'] at hp;rw [List.isEmpty_iff] at hp;rw [hp];decide
     simp only [xq_,h1,s1,s2,o1,w1,hw,zaf,yL,bI,h6,h7];exact r1
 obtain⟨y,Hz,r1,r2,r3⟩:=key K.length 0 (by omega) H1 zN (.inl ⟨rfl,rfl⟩) (λ_=> rfl) (Step.new _ (zac _));refine iG rfl rfl (akc _ _ _ (r:=(y,Hz)) ?_) ?_
 ·have e2:=(hs H1).lnS;simp only [H1] at k1 k2 e2 r1;simp only [xq_,adV,f1,k1,k2,e2];exact r1
 ·by_cases hz:t.ready K=[]
  ·rw [r3 hz,hz];simp only [dat,gB];exact jg
  ·rw [qW hz];exact vU r2 (by decide) (by simp) (λy hy=> vS (d:=7) _ y hy _ _) (λe=> hz (zan e))
end
def Off(S:Nat->Prop)(g g':bg):Prop:=∀q,¬S q->g' q=g q
theorem Off.refl(S:Nat->Prop)(g:bg):Off S g g:=λ_ _=> rfl
theorem Off.trans {S:Nat->Prop}{g g' g'':bg}(h:Off S g g')(h':Off S g' g''):Off S g g'':=λq hq=> (h' q hq).trans (h q hq)
theorem Off.upd {S:Nat->Prop}{g:bg}{q:Nat}{cs:List Cell}(h:S q):Off S g (upd g q cs):=λx hx=> by
 rw [aY];intro e;subst e;exact hx h
theorem Off.mono {S T:Nat->Prop}{g g':bg}(h:Off S g g')(hs:∀q,S q->T q):Off T g g':=λq hq=> h q λh'=> hq (hs q h')
def J6(P:Nat->Nat->Nat)(n:Nat)(q:Nat):Prop:=∃i s,i < n/\s < 4/\q=P i s
def OI(p:Port):Nat->List Pkt
 | 0=> p.rq
 | 1=> p.rin
 | 2=> p.an
 | _=> p.ain
def J7(c:Cfg):Nat->Int
 | 0=> c.out
 | 1=> c.inn
 | 2=> c.out
 | _=> 1
def oIx(req:Bool):Nat:=if req then 0 else 2
def iIx(req:Bool):Nat:=if req then 1 else 3
theorem gJ {g:bg}{a:Nat->Nat}{c:Cfg}{p:Port}(h:tJ g a c p):∀{s:Nat},s < 4->g (a s)=some (lQ (OI p s) (J7 c s)):=λ{s} hs=> by
 obtain⟨h0,h1,h2,h3⟩:=h
 match s,hs with
 | 0,_=> exact h0
 | 1,_=> exact h1
 | 2,_=> exact h2
 | 3,_=> exact h3
theorem yX {g:bg}{a:Nat->Nat}{c:Cfg}{p:Port}(h:∀s,s < 4->g (a s)=some (lQ (OI p s) (J7 c s))):tJ g a c p:=
 ⟨h 0 (by decide),h 1 (by decide),h 2 (by decide),h 3 (by decide)⟩
theorem yY(p:Port)(req:Bool):OI p (oIx req)=p.sort req:=by cases req <;> rfl
theorem EU(p:Port)(req:Bool):OI p (iIx req)=p.vI req:=by cases req <;> rfl
theorem qm(c:Cfg)(req:Bool):J7 c (oIx req)=c.out:=by cases req <;> rfl
theorem rC(req:Bool):oIx req < 4:=by cases req <;> decide
theorem qo(req:Bool):iIx req < 4:=by cases req <;> decide
theorem xM(p:Port)(req:Bool)(l:List Pkt)(s:Nat)(hs:s < 4):OI (p.nD req l) s=if s=oIx req then l else OI p s:=by
 match s,hs with
 | 0,_=> cases req <;> rfl
 | 1,_=> cases req <;> rfl
 | 2,_=> cases req <;> rfl
 | 3,_=> cases req <;> rfl
theorem Ak(p:Port)(req:Bool)(l:List Pkt)(s:Nat)(hs:s < 4):OI (p.nN req l) s=if s=iIx req then l else OI p s:=by
 match s,hs with
 | 0,_=> cases req <;> rfl
 | 1,_=> cases req <;> rfl
 | 2,_=> cases req <;> rfl
 | 3,_=> cases req <;> rfl
section
variable {b:Nat}{H:ah}{g:bg}{f:Nat}{P:Nat->Nat->Nat}{c:Cfg}{fab:Fab}
theorem gY.sub {g':bg}(F:gY g f P c fab)(hs:uf g g'):gY g' f P c fab:=
 ⟨hs _ _ F.1,λi p hp=> by obtain⟨a,b,c,d⟩:=F.2.1 i p hp;exact⟨hs _ _ a,hs _ _ b,hs _ _ c,hs _ _ d⟩,F.2.2⟩
theorem gY.fne(F:gY g f P c fab){i s:Nat}(hi:i < fab.l.length)(hs:s < 4):f≠P i s:=λe=> by
 have h1:=F.1;have h2:=gJ (F.port hi) hs;rw [<-e,h1] at h2;have:=congrArg List.length (zaX h2);simp [abz,lQ] at this
theorem gY.fill(F:gY g f P c fab)(J:Qk P fab.l.length){i s:Nat}(hi:i < fab.l.length)(hs:s < 4){p':Port}{l:List Pkt}(hp:∀t,t < 4->OI p' t=if t=s then l else OI (fab.port i) t):
  gY (upd g (P i s) (lQ l (J7 c s))) f P c (fab.put i p'):=by
 have hlen:(fab.put i p').l.length=fab.l.length:=by simp [Fab.put]
 refine⟨by rw [hlen,aY (F.fne hi hs)];exact F.1,λj p hj=> ?_,F.2.2⟩;simp only [Fab.put,zao] at hj;have hjl:j < fab.l.length:=by have:=(zak.1 hj).1;simpa using this
 by_cases hij:i=j
 ·subst hij;rw [zcb hi] at hj;cases hj;refine yX λt ht=> ?_;rw [hp t ht];by_cases hts:t=s
  ·subst hts;rw [if_pos rfl,aN]
  ·rw [if_neg hts,aY (λe=> hts (J _ _ _ _ hi hi ht hs e).2)];exact gJ (F.port hi) ht
 ·rw [zcm hij] at hj;refine yX λt ht=> ?_;rw [aY (λe=> hij (J _ _ _ _ hjl hi ht hs e).1.symm)];have:=gJ (F.2.1 j p hj) ht;exact this
theorem yZ {i:Int}(hi:fab.is i=true):∃n:Nat,i=n/\n < fab.l.length:=by
 simp only [Fab.is,zaj,decide_eq_true_eq] at hi;exact⟨i.toNat,by omega,by omega⟩
def abP(a:Nat->Nat)(req:Bool):List AV:=[.ref (a (oIx req)) 0 0,.ref (a (iIx req)) 0 0]
theorem Di(H:ah)(hb:H.base<=H.next)(a:Nat->Nat)(req:Bool):∃H',cl 43 [.agg (mG a),B req] H=some (.agg (abP a req),H')/\Made H H' oW:=by
 refine jK rfl rfl (ani _ _ _ _) ?_;have ap:(mG a).all AV.aU=true:=rfl;cases req with
 | true=>
  refine⟨(H.new (.blk 0 92 (mG a))).new (.blk 0 90 (abP a true)),?_,((Made.refl hb).new _).new _⟩;simp only [Nat.reduceLT,Nat.reduceAdd,aG,xq_,hq_,afC,mG,abP,oIx,iIx,aC,hb]
 | false=>
  refine⟨(H.new (.blk 0 92 (mG a))).new (.blk 0 90 (abP a false)),?_,((Made.refl hb).new _).new _⟩;simp only [Nat.reduceLT,Nat.reduceAdd,aG,xq_,hq_,afC,mG,abP,oIx,iIx,aC,hb]
theorem y7(G:Good b H g)(F:gY g f P c fab){i:Nat}(hi:i < fab.l.length):∃x r gg o,ld (.ref f 0 0) H=some (x,H)/\ix 4 x (I i) H=some (.ref r gg o,H)/\lda 4 (.ref r gg o) H=some (.agg (mG (P i)),H):=by
 obtain⟨x,hx,cu⟩:=G.seq F.1 (i:=0) rfl;obtain⟨r,gg,o,a1,_,a3⟩:=cu.elemAt (by decide) (qg P _) hi;have hr:(List.range fab.l.length)[i]?=some i:=zba hi;have:=sG (enc:=λi=> mG (P i)) (m:=4) (λ_=> rfl) (List.range fab.l.length) i i hr;rw [this] at a3;exact⟨x,r,gg,o,hx,a1 .i64,a3⟩
structure FOk(c:Cfg)(fab:Fab):Prop where
 ok:c.ok=true
 len:fab.l.length < 1000
 box:∀p∈fab.l,∀s,s < 4->((OI p s).length:Int)<=J7 c s
 dat:∀p∈fab.l,∀s,s < 4->∀q∈OI p s,q.data.length < 1000000000
theorem HY {c:Cfg}(h:c.ok=true)(s:Nat):0<=J7 c s/\J7 c s < 1000:=by
 have B:=uN h;have:=B.out;have:=B.inn;unfold J7;split <;> omega
theorem FOk.small {c:Cfg}{fab:Fab}(K:FOk c fab){p:Port}(hp:p∈fab.l){s:Nat}(hs:s < 4):(OI p s).length < 1000:=by
 have:=K.box p hp s hs;have:=(HY K.ok s).2;omega
theorem Fab.sU {fab:Fab}{i:Nat}(hi:i < fab.l.length):fab.port i∈fab.l:=by
 unfold Fab.port;rw [zao,zaJ,zab hi];exact zdf hi
theorem agz(G:Good b H g)(hb:H.base<=b)(F:gY g f P c fab)(K:FOk c fab)(i:Int)(req:Bool):∃H',cl 90 [.ref f 0 0,I i,B req] H=some (I (fab.roomOf i req),H')/\Good b H' g/\Step b H H':=by
 refine jK rfl rfl (an4 _ _ _ _ _) ?_;have e1:=CZ G F K.len i;cases hi:fab.is i with
 | false=>
  rw [hi] at e1;refine⟨H,?_,G,Step.refl _ _⟩;have:fab.roomOf i req=0:=by simp [Fab.roomOf,hi]
  simp only [xq_,afT,e1,zaf,this]
 | true=>
  rw [hi] at e1;obtain⟨n,rfl,hn⟩:=yZ hi;obtain⟨x,r,gg,o,h1,h2,h3⟩:=y7 G F hn;obtain⟨H1,s1,s2⟩:=Di H (zas hb G.1) (P n) req;have G1:Good b H1 g:=G.ext s2.next s2.same
  have hbx:=gJ (F.port hn) (rC req);have e2:=SH G1 hbx (HY K.ok _).1 (HY K.ok _).2 (K.small (Fab.sU hn) (rC req));rw [yY,qm,<-F.2.2.1] at e2;refine⟨H1,?_,G1,⟨s2.base,s2.next,λr hr=> s2.same r (zau hr G.1)⟩⟩;have hro:fab.roomOf n req=fab.out - ((fab.port n).sort req).length:=by unfold Fab.roomOf;rw [if_pos hi]
  have l0:(abP (P n) req)[0]?=some (.ref (P n (oIx req)) 0 0):=rfl;simp only [xq_,afT,e1,zad,h1,h2,h3,s1,l0,e2,hro]
theorem agB(G:Good b H g)(hb:H.base<=b)(F:gY g f P c fab)(J:Qk P fab.l.length)(K:FOk c fab)(p:Pkt)(hl:p.data.length < 1000000000):
  ∃H' g',cl 92 [.ref f 0 0,.agg p.av] H=some (I (fab.send p).2,H')/\Good b H' g'/\gY g' f P c (fab.send p).1/\Off (J6 P fab.l.length) g g'/\Step b H H':=by
 have hb0:H.base<=H.next:=zas hb G.1
 let H1:=H.new (.blk 0 99 p.av);have G1:Good b H1 g:=G.new _;have ck:=yV H1 p;have e1:=CZ G1 F K.len p.src;have e2:=CZ G1 F K.len p.dst;by_cases hbad:(!p.ok || !fab.is p.src || !fab.is p.dst)=true
 ·have hp:fab.send p=(fab,1):=by simp only [Fab.send];rw [if_pos hbad]
  rw [hp];refine⟨H1,g,aX rfl rfl (aju _ _ _ _ ?_),G1,F,Off.refl _ _,Step.new _ G.1⟩;simp only [H1] at ck e1 e2 ⊢;have f1:p.av[1]?=some (I p.src):=rfl;have f2:p.av[2]?=some (I p.dst):=rfl;cases hok:p.ok with
  | false=>
   rw [hok] at ck;simp only [Nat.reduceLT,Int.reduceEq,xq_,hq_,XT,aC (aK p),ck,zaf]
  | true=>
   rw [hok] at ck hbad;cases hs:fab.is p.src with
   | false=>
    rw [hs] at e1;simp only [Nat.reduceLT,xq_,hq_,XT,aC (aK p),ck,zad,f1,e1,zaf]
   | true=>
    rw [hs] at e1 hbad;have hd:fab.is p.dst=false:=by simpa using hbad
    rw [hd] at e2;simp only [Nat.reduceLT,xq_,hq_,XT,aC (aK p),ck,zad,f1,f2,e1,e2,zaf]
 ·have hcond:p.ok=true/\fab.is p.src=true/\fab.is p.dst=true:=by
   cases h1:p.ok <;> cases h2:fab.is p.src <;> cases h3:fab.is p.dst <;> simp_all
  obtain⟨hok,hs,hd⟩:=hcond;rw [hok] at ck;rw [hs] at e1;rw [hd] at e2;obtain⟨n,hsn,hn⟩:=yZ hs;obtain⟨x,r,gg,o,h1,h2,h3⟩:=y7 G1 F hn;let req:=Ef p.bf;have rq:=Hq H1.guard p.bf;obtain⟨K1',s1,s2⟩:=Di H1.guard (zac _) (P n) req;obtain⟨K1,s1,s2⟩:=drawn s1 s2;have G2:Good b K1 g:=G1.ext s2.next s2.same
  have hbx:=gJ (F.port hn) (rC req);have hbK:K1.base<=b:=by rw [s2.base];exact hb
  obtain⟨H',q1,q2,q3⟩:=afX G2 hbK hbx (HY K.ok _).1 (HY K.ok _).2 (K.small (Fab.sU hn) (rC req)) p hl;have g1:K1.get H.next=.blk 0 99 p.av:=by rw [s2.same _ (by simp only [H1,dL];omega)];exact aJ rfl
  have l9:lda 9 (.ref H.next 0 0) K1=some (.agg p.av,K1):=by
   rw [fO (off:=0) (n:=9) g1 (by rw [bH];exact zac _),zaO,LJ]
  rw [yY,qm] at q1;have hout:fab.out=c.out:=F.2.2.1;have hle:=K.box _ (Fab.sU hn) _ (rC req);rw [yY,qm] at hle;have f0:p.av[0]?=some (I p.bf):=rfl;have f1:p.av[1]?=some (I p.src):=rfl;have f2:p.av[2]?=some (I p.dst):=rfl;have l0:(abP (P n) req)[0]?=some (.ref (P n (oIx req)) 0 0):=rfl;have run:∀v,cl 142 [.ref (P n (oIx req)) 0 0,.agg p.av] K1=some (v,H')->cl 92 [.ref f 0 0,.agg p.av] H=some (v,H'):=λv q1=> by
   refine aX rfl rfl (aju _ _ _ _ ?_);rw [hsn] at f1 e1;simp only [H1,req] at ck e1 e2 rq h1 h2 h3 s1 l0 q1;simp only [Nat.reduceLT,xq_,hq_,XT,aC (aK p),ck,zad,f0,f1,f2,e1,e2,h1,h2,h3,rq,s1,l0,l9,q1]
  have st0:Step b H K1:=(Step.new _ G.1).trans ⟨s2.base,s2.next,λr hr=> s2.same r (zau hr G1.1)⟩;have hset:Off (J6 P fab.l.length) g (upd g (P n (oIx req)) (lQ (if J7 c (oIx req)=((OI (fab.port n) (oIx req)).length:Int) then OI (fab.port n) (oIx req) else OI (fab.port n) (oIx req)++[p]) (J7 c (oIx req)))):=Off.upd ⟨n,oIx req,hn,rC req,rfl⟩;rw [yY,qm] at q2 hset;by_cases hfull:c.out=(((fab.port n).sort req).length:Int)
  ·have hp:fab.send p=(fab,5):=by
    simp only [Fab.send];rw [if_neg hbad,hsn,hout,if_pos (Int.le_of_eq hfull)]
   rw [if_pos hfull] at q1 q2 hset;rw [eU (by rw [gJ (F.port hn) (rC req),yY,qm])] at q2;rw [hp];exact⟨H',g,run _ q1,q2,F,Off.refl _ _,st0.trans q3⟩
  ·have hp:fab.send p=(fab.put n ((fab.port n).nD req ((fab.port n).sort req++[p])),0):=by
    simp only [Fab.send];rw [if_neg hbad,hsn,hout,if_neg (λh=> hfull (Int.le_antisymm h hle))]
   rw [if_neg hfull] at q1 q2 hset;rw [hp];refine⟨H',_,run _ q1,q2,?_,hset,st0.trans q3⟩;have:=F.fill J hn (rC req) (p':=(fab.port n).nD req ((fab.port n).sort req++[p])) (l:=(fab.port n).sort req++[p]) (xM _ _ _);rw [qm] at this;exact this
end
section
variable {b:Nat}{H:ah}{g:bg}{f:Nat}{P:Nat->Nat->Nat}{c:Cfg}{fab:Fab}
theorem gY.apR(G:Good b H g)(F:gY g f P c fab){q:Nat}(h:J6 P fab.l.length q):q < H.next:=by
 obtain⟨i,s,hi,hs,rfl⟩:=h;exact G.lt (gJ (F.port hi) hs)
theorem gY.Qy(G:Good b H g)(F:gY g f P c fab):¬J6 P fab.l.length H.next:=λh=> Nat.lt_irrefl _ (F.apR G h)
theorem agC {K:ah}{gk:bg}{r:Nat}{ys:List AV}(Gk:Good b K gk)(hk:K.base<=b)(hz:gk r=some (ys.map Cell.av))(hy:ys.length=9){y:List AV}(h9:y.length=9)(ha:y.all AV.aU=true):
  ∃K',st 9 (.ref r 0 0) (.agg y) K=some (aO,K')/\lda 9 (.ref r 0 0) K'=some (.agg y,K')/\Good b K' (upd gk r (y.map Cell.av))/\Step b K K':=by
 obtain⟨K',t1,t2,t3,t4⟩:=Gk.stores hk hz (i:=0) (n:=9) (vs:=y) (by simp [hy]) h9 ha;have e:pO (ys.map Cell.av) 0 y=y.map Cell.av:=by
  unfold pO;rw [zaF (by simp [h9,hy])];simp
 rw [e] at t2;exact⟨K',t1,t2.loads aN (i:=0) (n:=9) (xs:=y) (by rw [zaO,zaE (by simp [h9])]) h9 (by decide),t2,t3⟩
theorem Za(G:Good b H g)(hb:H.base<=b)(F:gY g f P c fab)(J:Qk P fab.l.length)(K:FOk c fab)(i:Int)(req:Bool):
  ∃H' g',cl 127 [.ref f 0 0,I i,B req] H=some (gQ (fab.take i req).2,H')/\Good b H' g'/\gY g' f P c (fab.take i req).1/\Off (J6 P fab.l.length) g g'/\Step b H H':=by
 have hb0:H.base<=H.next:=zas hb G.1
 have G1:=G.newObj (ty:=99) (xs:=zP9) rfl;have S1:uf g (upd g H.next (zP9.map Cell.av)):=(uf.refl g).more (G.isNone (zac _)) _;have F1:=F.sub S1;have e1:=CZ G1 F1 K.len i;have ez:bd 99 []=some (.agg zP9):=by simp only [xq_,xw,jo,dH]
 cases hi:fab.is i with
 | false=>
  rw [hi] at e1;have hp:fab.take i req=(fab,none):=by simp [Fab.take,hi]
  rw [hp];obtain⟨K',t1,t2,t3,t4⟩:=agC G1 (by rw [iC];exact hb) aN rfl (y:=zP9) rfl rfl;refine⟨K',g,aX rfl rfl (adR _ _ _ _ _ ?_),t3.sub (by rw [qB];exact S1),F,Off.refl _ _,(Step.new _ G.1).trans t4⟩;simp only [xq_,X8,e1,zaf,ez,t1,t2,gQ,zaT,zaB,eP]
 | true=>
  rw [hi] at e1;obtain⟨n,rfl,hn⟩:=yZ hi;obtain⟨x,r,gg,o,h1,h2,h3⟩:=y7 G1 F1 hn;obtain⟨K1,s1,s2⟩:=Di (H.new (.blk 0 99 zP9)) (by rw [iC,dL];omega) (P n) req;have G2:Good b K1 _:=G1.ext s2.next s2.same
  have hbx:=gJ (F1.port hn) (qo req);have hbK:K1.base<=b:=by rw [s2.base,iC];exact hb
  have st1:Step b H K1:=(Step.new _ G.1).trans ⟨s2.base,s2.next,λr hr=> s2.same r (zau hr G1.1)⟩;obtain⟨K2,q1,q2,q3⟩:=Yt G2 hbK hbx (K.small (Fab.sU hn) (qo req)) (K.dat _ (Fab.sU hn) _ (qo req));have hpn:P n (iIx req)≠H.next:=λe=> F.Qy G ⟨n,iIx req,hn,qo req,e.symm⟩
  rw [EU] at q1 q2;obtain⟨K3,t1,t2,t3,t4⟩:=agC q2 (by rw [q3.base];exact hbK) (r:=H.next) (ys:=zP9) (by rw [aY hpn.symm,aN]) rfl (y:=(((fab.port n).vI req).head?.getD .zero).av) (bH _) (aK _);have l1:(abP (P n) req)[1]?=some (.ref (P n (iIx req)) 0 0):=rfl;have run:cl 127 [.ref f 0 0,I n,B req] H=some (gQ ((fab.port n).vI req).head?,K3):=by
   refine aX rfl rfl (adR _ _ _ _ _ ?_);simp only [gQ] at q1;simp only [xq_,X8,e1,zad,h1,h2,h3,s1,l1,q1,t1,t2,gQ]
  have hsub:uf (upd g (P n (iIx req)) (lQ ((fab.port n).vI req).tail (J7 c (iIx req)))) (upd (upd (upd g H.next (zP9.map Cell.av)) (P n (iIx req)) (lQ ((fab.port n).vI req).tail (J7 c (iIx req)))) H.next ((((fab.port n).vI req).head?.getD .zero).av.map Cell.av)):=
   (S1.both _ _).more (yj (G.isNone (zac _)) hpn.symm) _
  have G3:=t3.sub hsub;cases hz:(fab.port n).vI req with
  | nil=>
   have hp:fab.take n req=(fab,none):=by simp [Fab.take,hi,hz]
   rw [hz] at run G3;rw [hp];rw [List.tail_nil,eU (by rw [gJ (F.port hn) (qo req),EU,hz])] at G3;exact⟨K3,g,run,G3,F,Off.refl _ _,(st1.trans q3).trans t4⟩
  | cons p l=>
   have hp:fab.take n req=(fab.put n ((fab.port n).nN req l),some p):=by simp [Fab.take,hi,hz]
   rw [hz] at run G3;rw [hp];refine⟨K3,_,run,G3,?_,Off.upd ⟨n,iIx req,hn,qo req,rfl⟩,(st1.trans q3).trans t4⟩;exact F.fill J hn (qo req) (p':=(fab.port n).nN req l) (l:=l) (Ak _ _ _)
theorem Am(G:Good b H g)(hb:H.base<=b)(F:gY g f P c fab)(J:Qk P fab.l.length)(K:FOk c fab)(i:Int):
  ∃H' g',cl 93 [.ref f 0 0,I i] H=some (gQ (fab.take i true).2,H')/\Good b H' g'/\gY g' f P c (fab.take i true).1/\Off (J6 P fab.l.length) g g'/\Step b H H':=by
 have G1:=G.newObj (ty:=99) (xs:=zP9) rfl;have S1:uf g (upd g H.next (zP9.map Cell.av)):=(uf.refl g).more (G.isNone (zac _)) _;have F1:=F.sub S1;obtain⟨K1,g',q1,q2,q3,q4,q5⟩:=Za G1 (by rw [iC];exact hb) F1 J K i true;have hg':g' H.next=some (zP9.map Cell.av):=by rw [q4 _ (F.Qy G),aN]
 obtain⟨K2,t1,t2,t3,t4⟩:=agC q2 (by rw [q5.base,iC];exact hb) hg' rfl (y:=((fab.take i true).2.getD .zero).av) (bH _) (aK _);let g2:bg:=λq=> if q=H.next then none else g' q
 have hn:g H.next=none:=G.isNone (zac _)
 have F2:gY g2 f P c (fab.take i true).1:=by
  have ne:∀q cs,g' q=some cs->q≠H.next->g2 q=some cs:=λq cs h1 h2=> by simp only [g2];rw [if_neg h2];exact h1
  have hlen:(fab.take i true).1.l.length=fab.l.length:=by
   unfold Fab.take;split
   ·split
    ·rfl
    ·simp [Fab.put]
   ·rfl
  have fn:f≠H.next:=G.ne F.1
  refine⟨ne _ _ q3.1 fn,λj p hj=> yX λs hs=> ne _ _ (gJ (q3.2.1 j p hj) hs) λe=> ?_,q3.2.2⟩;have hjl:j < fab.l.length:=by rw [<-hlen];exact(zak.1 hj).1
  exact F.Qy G ⟨j,s,hjl,hs,e.symm⟩
 refine⟨K2,g2,aX rfl rfl (an7 _ _ _ _ ?_),t3.sub λq cs h=> ?_,F2,λq hq=> ?_,((Step.new _ G.1).trans q5).trans t4⟩
 ·simp only [gQ] at q1;simp only [xq_,ajv,q1,t1,t2,gQ]
 ·simp only [g2] at h;split at h
  ·cases h
  ·rename_i hne;rw [aY hne];exact h
 ·simp only [g2];split
  ·rename_i e;rw [e,hn]
  ·rename_i hne;rw [q4 q hq,aY hne]
theorem JK(G:Good b H g)(hb:H.base<=b)(F:gY g f P c fab)(J:Qk P fab.l.length)(K:FOk c fab)(i:Int):
  ∃H' g',cl 83 [.ref f 0 0,I i] H=some (gQ (fab.take i false).2,H')/\Good b H' g'/\gY g' f P c (fab.take i false).1/\Off (J6 P fab.l.length) g g'/\Step b H H':=by
 have G1:=G.newObj (ty:=99) (xs:=zP9) rfl;have S1:uf g (upd g H.next (zP9.map Cell.av)):=(uf.refl g).more (G.isNone (zac _)) _;have F1:=F.sub S1;obtain⟨K1,g',q1,q2,q3,q4,q5⟩:=Za G1 (by rw [iC];exact hb) F1 J K i false;have hg':g' H.next=some (zP9.map Cell.av):=by rw [q4 _ (F.Qy G),aN]
 obtain⟨K2,t1,t2,t3,t4⟩:=agC q2 (by rw [q5.base,iC];exact hb) hg' rfl (y:=((fab.take i false).2.getD .zero).av) (bH _) (aK _);let g2:bg:=λq=> if q=H.next then none else g' q
 have hn:g H.next=none:=G.isNone (zac _)
 have F2:gY g2 f P c (fab.take i false).1:=by
  have ne:∀q cs,g' q=some cs->q≠H.next->g2 q=some cs:=λq cs h1 h2=> by simp only [g2];rw [if_neg h2];exact h1
  have hlen:(fab.take i false).1.l.length=fab.l.length:=by
   unfold Fab.take;split
   ·split
    ·rfl
    ·simp [Fab.put]
   ·rfl
  have fn:f≠H.next:=G.ne F.1
  refine⟨ne _ _ q3.1 fn,λj p hj=> yX λs hs=> ne _ _ (gJ (q3.2.1 j p hj) hs) λe=> ?_,q3.2.2⟩;have hjl:j < fab.l.length:=by rw [<-hlen];exact(zak.1 hj).1
  exact F.Qy G ⟨j,s,hjl,hs,e.symm⟩
 refine⟨K2,g2,aX rfl rfl (anU _ _ _ _ ?_),t3.sub λq cs h=> ?_,F2,λq hq=> ?_,((Step.new _ G.1).trans q5).trans t4⟩
 ·simp only [gQ] at q1;simp only [xq_,ajq,q1,t1,t2,gQ]
 ·simp only [g2] at h;split at h
  ·cases h
  ·rename_i hne;rw [aY hne];exact h
 ·simp only [g2];split
  ·rename_i e;rw [e,hn]
  ·rename_i hne;rw [q4 q hq,aY hne]
end
section
variable {b:Nat}{H:ah}{g:bg}{q:Nat}{l:List Pkt}{room:Int}
theorem U8(G:Good b H g)(hb:H.base<=b)(h:g q=some (lQ l room))(h3:l.length < 1000)(hd:∀p∈l,p.data.length < 1000000000)(k:Nat)(hk:k < l.length):
  ∃v H',cl 47 [.ref q 0 0,I k] H=some (v,H')/\Good b H' (upd g q (lQ (l.eraseIdx k) room))/\Step b H H':=by
 obtain⟨p,hp⟩:∃p,l[k]?=some p:=⟨_,zab hk⟩
 have hq:=G.lt h;have G1:=G.newObj (ty:=99) (xs:=zP9) rfl;have h1:upd g H.next (zP9.map Cell.av) q=some (lQ l room):=by rw [aY (by omega)];exact h
 have e1:=Yu G1 h1 h3 hd k;rw [if_neg (by omega),zao,hp] at e1;simp only [gQ,zat,zaG] at e1;have hb0:H.base<=H.next:=zas hb G.1
 have G2:=G1.newObj (ty:=99) (xs:=p.av) (aK _);have h2:upd (upd g H.next (zP9.map Cell.av)) (H.next+1) (p.av.map Cell.av) q=some (lQ l room):=by rw [aY (by omega)];exact h1
 obtain⟨x,x',K1,K2,s1,s2,s3,s4,s5⟩:=SI G2 (by rw [iC,iC];omega) h2 h3 hk;have G3:Good b K2 _:=s4;let gz:=upd (upd (upd g H.next (zP9.map Cell.av)) (H.next+1) (p.av.map Cell.av)) q (lQ (l.eraseIdx k) room);have q2:gz (H.next+1)=some (p.av.map Cell.av):=by simp only [gz];rw [aY (by omega),aN]
 have q1:gz H.next=some (zP9.map Cell.av):=by simp only [gz];rw [aY (by omega),aY (by omega),aN]
 have l2:=G3.loads q2 (i:=0) (n:=9) (xs:=p.av) rfl rfl (by decide);obtain⟨K3,t1,t2,t3,t4⟩:=G3.stores (by rw [s5.base,iC,iC];exact hb) q1 (i:=0) (n:=9) (vs:=p.av) (by decide) rfl (aK _);have l3:=t2.loads aN (i:=0) (n:=9) (xs:=p.av) rfl rfl (by decide);have w1:=wrap_i64 (a:=(k:Int)+1) (by omega) (by omega);have n1:g H.next=none:=G.isNone (zac _)
 have n2:g (H.next+1)=none:=G.isNone (by omega);refine⟨.tup [.agg p.av,B true],K3,aX rfl rfl (anm _ _ _ _ ?_),t2.sub (((((uf.refl g).more n1 _).more n2 _).both q _).more (yj n1 (by omega)) _),(((Step.new _ G.1).trans (Step.new _ (G.new _).1)).trans s5).trans t3⟩;simp only [Nat.reduceAdd,aG,xq_,hq_,aiU,e1,P9,hb0,bI,w1,s1,s2,s3,l2,t1,l3]
end
theorem tK {β:Type}{r gg o:Nat}{H H':ah}{k:Option β}(h:H'.get r=H.get r):ck (bD (.ref r gg o)) H H' k=k:=abB λx hx=> by
 simp only [bD,zaa] at hx;subst hx;exact h
section
variable {β:Type}{r gg o:Nat}{X X':ah}{a a' c c':fD}{k:Option β}
theorem ckN(h:r < X.next):ck (bD (.ref r gg o)) (X.new a) (X.new a') k=k:=tK (by rw [aS h,aS h])
theorem ckM(h:r=X.next)(h':X'.next=X.next):ck (bD (.ref r gg o)) ((X.new a).new c) ((X'.new a).new c') k=k:=tK (by rw [aS (H:=X'.new a) (by rw [dL,h'];omega),aS (H:=X.new a) (by rw [dL];omega),aJ (h.trans h'.symm),aJ h])
end
theorem alD {β:Type}{l:List Int}{H H':ah}{k:Option β}:ck (bD (dat l)) H H' k=k:=abB λx hx=> by
 by_cases h:l=[]
 ·subst h;simp [dat,gB,bD] at hx
 ·rw [qW h] at hx;simp [bD] at hx
theorem kJ:dF.zero.av=[zI,zI,zI,zI,zI,zI,zN,zI,zI]:=by simp [dF.zero,dF.av,dat,gB]
theorem Zb(p:dF){d:Nat}:∀x∈p.av,Frz (d+2) x:=λx hx=> by
 simp only [dF.av,zar,zaH,or_false] at hx;rcases hx with rfl | rfl | rfl | rfl | rfl | rfl | rfl | rfl | rfl <;> first | exact dQ | exact nM
theorem Zc(H:ah)(k:Int):cl 168 [I k] H=some (I (OH k),H):=by
 refine aX rfl rfl (akI _ _ _ ?_);unfold OH;by_cases h1:k=1
 ·simp only [Int.reduceEq,xq_,Bg,h1]
 ·by_cases h2:k=2
  ·simp only [Int.reduceEq,xq_,Bg,h2]
  ·by_cases h3:k=3
   ·simp only [Int.reduceEq,xq_,Bg,h3]
   ·by_cases h4:k=4
    ·simp only [Int.reduceEq,xq_,Bg,h4]
    ·by_cases h5:k=5
     ·simp only [Int.reduceEq,xq_,Bg,h5]
     ·by_cases h6:k=6
      ·simp only [Int.reduceEq,xq_,Bg,h6]
      ·simp only [xq_,Bg,h1,h2,h3,h4,h5,h6]
theorem abQ(H:ah)(bf aB id:Int):cl 147 [I bf,I aB,I id] H=some (.agg (dF.begin bf aB id).av,H):=by
 refine aV rfl rfl (akr _ _ _ _ _) ?_ (lI (Zb _));have hd0:dat ([]:List Int)=zN:=by simp [dat,gB]
 simp only [Int.reduceNeg,Nat.reduceAdd,Nat.reduceLeDiff,aG,xq_,hq_,ad3,WV,jo,fJ,ahN,dF.begin,dF.av,hd0]
theorem Qz(H:ah)(d:dF)(p:Pkt):cl 161 [.agg d.av,.agg p.av] H=some (B (d.fits p),H):=by
 refine aV rfl rfl (akA _ _ _ _) ?_ dQ;have e1:=λH=> Zc H d.step;have e2:=λH=> NG H (OH d.step);unfold dF.fits;by_cases h1:J5 (OH d.step)=0
 ·simp only [Nat.reduceLT,xq_,hq_,GR,aC,dF.av,Pkt.av,e1,e2,h1,zad,zaL,not_true_eq_false]
 ·by_cases h2:p.bf=J5 (OH d.step)
  ·by_cases h3:p.id=d.id
   ·by_cases h4:p.aB=d.aB
    ·simp only [Nat.reduceLT,xq_,hq_,GR,aC,dF.av,Pkt.av,e1,e2,h1,h2,h3,h4,zaf]
    ·simp only [Nat.reduceLT,xq_,hq_,GR,aC,dF.av,Pkt.av,e1,e2,h1,h2,h3,h4,zaf,zbQ]
   ·simp only [Nat.reduceLT,xq_,hq_,GR,aC,dF.av,Pkt.av,e1,e2,h1,h2,h3,zaf,zaL,zbQ]
  ·simp only [Nat.reduceLT,xq_,hq_,GR,aC,dF.av,Pkt.av,e1,e2,h1,h2,zaf,zaL,zbQ]
theorem alE(H:ah)(d:dF)(bn home:Int)(hl:d.data.length < 1000000000):cl 136 [.agg d.av,I bn,I home] H=some (.agg (d.ask bn home).av,H):=by
 refine aV rfl rfl (akb _ _ _ _ _) ?_ (lI (TA _));have e1:=λH k=> Zc H k;have hd0:dat ([]:List Int)=zN:=by simp [dat,gB]
 have e5:=λH=> jy H d.data hl;have e6:=λH=> (gI H d.data).lnS;have ebd:∀k,bd 99 [(0,I k),(1,I bn),(2,I home),(3,I d.id),(4,I d.aB)]=some (.agg [I k,I bn,I home,I d.id,I d.aB,zI,zI,zB,zN]):=λk=> by
  simp only [xq_,xw,jo,fJ,PG];rfl
 have ez:bd 99 []=some (.agg zP9):=by simp only [xq_,xw,jo,dH]
 unfold dF.ask;by_cases h1:d.step=1
 ·simp only [Nat.reduceLT,Int.reduceEq,Nat.reduceAdd,Nat.reduceLeDiff,aG,xq_,hq_,Bf,aC,dF.av,e1,h1,ebd,OH,Pkt.av,hd0]
 ·by_cases h2:d.step=2
  ·simp only [Nat.reduceLT,Int.reduceEq,Nat.reduceAdd,Nat.reduceLeDiff,aG,xq_,hq_,Bf,mX,aC,dF.av,e1,h2,ebd,OH,Pkt.av,hd0]
  ·by_cases h3:d.step=3
   ·simp only [Nat.reduceLT,Int.reduceEq,Nat.reduceAdd,Nat.reduceLeDiff,aG,xq_,hq_,Bf,mX,aC,dF.av,e1,h3,ebd,OH,Pkt.av,hd0]
   ·by_cases h4:d.step=4
    ·simp only [Nat.reduceLT,Int.reduceEq,Nat.reduceAdd,Nat.reduceLeDiff,aG,xq_,hq_,Bf,mX,aC,dF.av,e1,h4,ebd,OH,Pkt.av,hd0,ckN]
    ·by_cases h5:d.step=5
     ·simp only [Nat.reduceLT,Int.reduceEq,Nat.reduceAdd,Nat.reduceLeDiff,aG,xq_,hq_,Bf,mX,aC,dF.av,e1,h5,ebd,OH,Pkt.av,hd0,ckN]
     ·by_cases h6:d.step=6
      ·have hn:decide (d.data≠[])=decide ((0:Int) < d.data.length):=by
        cases d.data with
        | nil=> rfl
        | cons a l=>
         have:(0:Int) < ((a::l).length:Int):=by simp only [zah];omega
         simp only [this,ne_eq,decide_true];rfl
       simp only [Nat.reduceLT,Int.reduceEq,Nat.reduceAdd,Nat.reduceLeDiff,aG,xq_,hq_,Bf,mX,aC,dF.av,e1,h6,ebd,OH,Pkt.av,e5,e6,hn,ckN,alD]
      ·simp only [Nat.reduceLT,Nat.reduceAdd,Nat.reduceLeDiff,aG,xq_,hq_,Bf,aC,dF.av,e1,h1,h2,h3,h4,h5,h6,ebd,ez,eP]
abbrev Lcl:=Nat->Option (List AV)
def gV(ls:Lcl)(r:Nat)(xs:List AV):Lcl:=λx=> if x=r then some xs else ls x
def noL:Lcl:=λ_=> none
def lay(g:bg)(ls:Lcl):bg:=λq=> match ls q with
 | some xs=> some (xs.map Cell.av)
 | none=> g q
structure Loc(b:Nat)(K:ah)(g:bg)(ls:Lcl):Prop where
 good:Good b K (lay g ls)
 free:∀r,ls r≠none->g r=none
section
variable {b:Nat}{K:ah}{g:bg}{ls:Lcl}{r q:Nat}{xs:List AV}
theorem aj:gV ls r xs r=some xs:=by simp [gV]
theorem ay {x:Nat}(h:x≠r):gV ls r xs x=ls x:=by simp [gV,h]
theorem Zd:lay g (gV ls r xs)=upd (lay g ls) r (xs.map Cell.av):=by
 funext x
 simp only [lay,gV,upd];by_cases h:x=r
 ·simp [h]
 ·simp [h]
theorem JL {cs:List Cell}(h:ls q=none):lay (upd g q cs) ls=upd (lay g ls) q cs:=by
 funext x
 simp only [lay,upd];by_cases hx:x=q
 ·subst hx;simp [h]
 ·simp [hx]
theorem Loc.of(G:Good b K g):Loc b K g noL:=⟨G,λ_ h=> absurd rfl h⟩
theorem Loc.out(L:Loc b K g ls):Good b K g:=L.good.sub λq cs h=> by
 unfold lay;cases hl:ls q with
 | none=> exact h
 | some xs=> rw [L.free q (by rw [hl];simp)] at h;cases h
theorem Loc.new(L:Loc b K g ls)(o:fD):Loc b (K.new o) g ls:=⟨L.good.new o,L.free⟩
theorem Loc.newL(L:Loc b K g ls){ty:TypeId}(hc:xs.all AV.aU=true)(hr:r=K.next)(ht:ty < fQ:=by decide):Loc b (K.new (.blk 0 ty xs)) g (gV ls r xs):=by
 subst hr;refine⟨by rw [Zd];exact L.good.newObj hc ht,λx hx=> ?_⟩;by_cases h:x=K.next
 ·rw [h];exact L.out.isNone (zac _)
 ·rw [ay h] at hx;exact L.free x hx
theorem nU(h:ls r=some xs):lay g ls r=some (xs.map Cell.av):=by simp [lay,h]
theorem Loc.at_(L:Loc b K g ls){cs:List Cell}(h:g q=some cs):lay g ls q=some cs/\ls q=none:=by
 cases hl:ls q with
 | none=> exact⟨by simp [lay,hl,h],rfl⟩
 | some xs=> rw [L.free q (by rw [hl];simp)] at h;cases h
theorem Loc.obj(L:Loc b K g ls){cs:List Cell}(h:g q=some cs):lay g ls q=some cs:=(L.at_ h).1
theorem Loc.ld(L:Loc b K g ls)(h:ls r=some xs){i:Nat}{v:AV}(hi:xs[i]?=some v):ld (.ref r 0 i) K=some (v,K):=
 L.good.load (nU h) (i:=i) (x:=v) (by rw [zaD,hi];rfl)
theorem Loc.lda(L:Loc b K g ls)(h:ls r=some xs){i n:Nat}{ys:List AV}(hi:(xs.drop i).take n=ys)(hn:ys.length=n)(hp:0 < n):lda n (.ref r 0 i) K=some (.agg ys,K):=
 L.good.loads (nU h) (i:=i) (n:=n) (xs:=ys) (by rw [<-hi,zcz,zdd]) hn hp
theorem U9 {i:Nat}{vs:List AV}:pO (xs.map Cell.av) i vs=(aG xs i vs).map Cell.av:=by
 simp only [pO,aG,zbr,zcz,zdd]
theorem Loc.agy(L:Loc b K g ls)(h:ls r=some xs){K':ah}{ys:List AV}(G:Good b K' (upd (lay g ls) r (ys.map Cell.av))):Loc b K' g (gV ls r ys):=by
 refine⟨by rw [Zd];exact G,λx hx=> ?_⟩;by_cases e:x=r
 ·subst e;exact L.free x (by rw [h];simp)
 ·rw [ay e] at hx;exact L.free x hx
theorem Loc.st(L:Loc b K g ls)(hb:K.base<=b)(h:ls r=some xs){i:Nat}{v:AV}(hi:i < xs.length)(hv:One v):∃K',st 1 (.ref r 0 i) v K=some (aO,K')/\Loc b K' g (gV ls r (xs.set i v))/\Step b K K':=by
 obtain⟨K',t1,t2,t3,t4⟩:=L.good.store hb (nU h) (i:=i) (by simpa using hi) hv;rw [<-List.map_set] at t2;exact⟨K',t1,L.agy h t2,t3⟩
theorem Loc.sta(L:Loc b K g ls)(hb:K.base<=b)(h:ls r=some xs){i n:Nat}{vs:List AV}(hi:i+n<=xs.length)(hn:vs.length=n)(hv:vs.all AV.aU=true):∃K',Proofs.YtmdbbfoefdjgoaaGreat.st n (.ref r 0 i) (.agg vs) K=some (aO,K')/\Loc b K' g (gV ls r (aG xs i vs))/\Step b K K':=by
 obtain⟨K',t1,t2,t3,t4⟩:=L.good.stores hb (nU h) (i:=i) (by simpa using hi) hn hv;rw [U9] at t2;exact⟨K',t1,L.agy h t2,t3⟩
theorem Ze {vs:List AV}(h:vs.length=xs.length):aG xs 0 vs=vs:=by
 unfold aG;rw [zds,zaU,za5,zaF (by omega),zbb]
theorem Loc.whole(L:Loc b K g ls)(hb:K.base<=b)(h:ls r=some xs){n:Nat}{vs:List AV}(hx:xs.length=n)(hn:vs.length=n)(hp:0 < n)(hv:vs.all AV.aU=true):∃K',Proofs.YtmdbbfoefdjgoaaGreat.st n (.ref r 0 0) (.agg vs) K=some (aO,K')/\Proofs.YtmdbbfoefdjgoaaGreat.lda n (.ref r 0 0) K'=some (.agg vs,K')/\Loc b K' g (gV ls r vs)/\Step b K K':=by
 obtain⟨K',t1,t2,t3⟩:=L.sta hb h (i:=0) (n:=n) (vs:=vs) (by omega) hn hv;rw [Ze (by omega)] at t2;exact⟨K',t1,t2.lda aj (i:=0) (n:=n) (by rw [zaO,zaE (by omega)]) hn hp,t2,t3⟩
theorem Loc.call(L:Loc b K g ls){cs0 cs:List Cell}(hq:g q=some cs0){K':ah}(G:Good b K' (upd (lay g ls) q cs)):Loc b K' (upd g q cs) ls:=by
 obtain⟨h1,h2⟩:=L.at_ hq;refine⟨by rw [JL h2];exact G,λr hr=> ?_⟩;have hne:r≠q:=λe=> by subst e;exact hr h2
 rw [aY hne];exact L.free r hr
theorem Good.exact {b:Nat}{K:ah}{g:bg}{r:Nat}{xs:List AV}(G:Good b K g)(h:g r=some (xs.map Cell.av)):∃ty,K.get r=.blk 0 ty xs/\ty < fQ:=by
 obtain⟨_,τ,hR⟩:=G;have R:=hR r _ h;obtain⟨ty,ys,h1,h2,h3,h4⟩:=R.blk;have:ys=xs:=by
  apply zbg
  intro i;rcases zaW i xs.length with hi | hi
  ·have hx:ys[i]?=some (ys[i]'(by simp at h2;omega)):=zab _;have:=h4 i (.av xs[i]) _ (by simp [hi]) hx;simp only [CR] at this;rw [hx,this];simp [hi]
  ·rw [zaK (by simp at h2;omega),zaK hi]
 subst this;exact⟨ty,h1,R.tyl _ _ _ h1⟩
theorem TF {b:Nat}{K K':ah}{g g':bg}{r:Nat}{xs:List AV}(G:Good b K g)(G':Good b K' g')(hk:Keeps K K')(h:g r=some (xs.map Cell.av))(h':g' r=some (xs.map Cell.av)):K'.get r=K.get r:=by
 have hr:=G.lt h;obtain⟨ty,e1,t1⟩:=G.exact h;obtain⟨ty',e2,t2⟩:=G'.exact h';obtain⟨g2,ty2,c2,e3,k⟩:=hk.types r hr _ _ _ e1;rw [e2] at e3;cases e3;rcases k with rfl | k
 ·rw [e1,e2]
 ·exact absurd k (Nat.not_le.2 t2)
end
structure COk(ca:Cache):Prop where
 len:ca.l.length < 1000000
 sets:1<=ca.sets
 clk:0<=ca.dD/\ca.dD < 1000000000
 dat:∀e∈ca.l,e.data.length < 1000000000
 used:∀e∈ca.l,0<=e.used/\e.used < 1000000000
theorem y8 {b:Nat}{H:ah}{g:bg}{q:Nat}(G:Good b H g)(hb:H.base<=b){c:Cache}(h:g q=some (bJ c))(C:COk c)(e:Ent)(hel:e.data.length < 1000000000):
  ∃H',cl 135 [.ref q 0 0,.agg e.av] H=some (I (c.put e).2,H')/\Good b H' (upd g q (bJ (c.put e).1))/\Step b H H':=
 Ti G hb h C.len C.sets C.clk e hel (oh _ e.data)
def rG(n:Nxt):AV:=.tup [.agg n.2.1.av,B n.2.2]
abbrev zD9:List AV:=[zI,zI,zI,zI,zI,zI,zN,zI,zI]
theorem Bz:dat ([]:List Int)=zN:=by simp [dat,gB]
section
variable {b:Nat}{H:ah}{g:bg}{q:Nat}{ca:Cache}
theorem agD(G:Good b H g)(hb:H.base<=b)(h:g q=some (bJ ca))(C:COk ca)(d:dF)(bn:Int)(p:Pkt)(hp:p.data.length < 1000000000):
  ∃H',cl 163 [.agg d.av,I bn,.ref q 0 0,.agg p.av] H=some (rG ((ca.put ⟨d.head,-1,d.aB,0,false,p.data⟩).1,{ d with step:=6,state:=1,head:=bn,data:=if p.flag then p.data else [] },true),H')/\
   Good b H' (upd g q (bJ (ca.put ⟨d.head,-1,d.aB,0,false,p.data⟩).1))/\Step b H H':=by
 refine jK rfl rfl (akD _ _ _ _ _ _) ?_;have L1:=(Loc.of G).newL (ty:=62) (xs:=d.av) (r:=H.next) (aZ d) rfl;have L2:=L1.newL (ty:=99) (xs:=p.av) (r:=H.next+1) (aK p) (by rw [dL]);have L3:=L2.newL (ty:=62) (xs:=zD9) (r:=H.next+1+1) rfl (by rw [dL,dL]);have s3:Step b H _:=((Step.new (.blk 0 62 d.av) G.1).trans (Step.new (.blk 0 99 p.av) L1.good.1)).trans (Step.new (.blk 0 62 zD9) L2.good.1);have d1:=L3.ld (r:=H.next) (i:=1) (v:=I d.aB) (by first | exact aj | (rw [ay (by omega)];first | exact aj | (rw [ay (by omega)];first | exact aj | (rw [ay (by omega)];first | exact aj | (rw [ay (by omega)];first | exact aj | (rw [ay (by omega)];exact aj)))))) rfl;have d5:=L3.ld (r:=H.next) (i:=5) (v:=I d.head) (by first | exact aj | (rw [ay (by omega)];first | exact aj | (rw [ay (by omega)];first | exact aj | (rw [ay (by omega)];first | exact aj | (rw [ay (by omega)];first | exact aj | (rw [ay (by omega)];exact aj)))))) rfl;have p8:=L3.ld (r:=H.next+1) (i:=8) (v:=dat p.data) (by first | exact aj | (rw [ay (by omega)];first | exact aj | (rw [ay (by omega)];first | exact aj | (rw [ay (by omega)];first | exact aj | (rw [ay (by omega)];first | exact aj | (rw [ay (by omega)];exact aj)))))) rfl;have e1:=λH=> YU H d.aB d.head (-1) false hp (oh H p.data);obtain⟨K1,a1,a2,a3⟩:=y8 L3.good (by rw [s3.base];exact hb) (L3.obj h) C ⟨d.head,-1,d.aB,0,false,p.data⟩ hp;have M1:=L3.call h a2;have t1:=s3.trans a3;obtain⟨K2,u2,M2,w2⟩:=M1.st (by rw [t1.base];exact hb) (r:=H.next) (by first | exact aj | (rw [ay (by omega)];first | exact aj | (rw [ay (by omega)];first | exact aj | (rw [ay (by omega)];first | exact aj | (rw [ay (by omega)];first | exact aj | (rw [ay (by omega)];exact aj)))))) (i:=3) (v:=I 6) (by simp [dF.av]) dw;have t2:=t1.trans w2;obtain⟨K3,u3,M3,w3⟩:=M2.st (by rw [t2.base];exact hb) (r:=H.next) (by first | exact aj | (rw [ay (by omega)];first | exact aj | (rw [ay (by omega)];first | exact aj | (rw [ay (by omega)];first | exact aj | (rw [ay (by omega)];first | exact aj | (rw [ay (by omega)];exact aj)))))) (i:=4) (v:=I 1) (by simp [dF.av]) dw;have t3:=t2.trans w3;obtain⟨K4,u4,M4,w4⟩:=M3.st (by rw [t3.base];exact hb) (r:=H.next) (by first | exact aj | (rw [ay (by omega)];first | exact aj | (rw [ay (by omega)];first | exact aj | (rw [ay (by omega)];first | exact aj | (rw [ay (by omega)];first | exact aj | (rw [ay (by omega)];exact aj)))))) (i:=5) (v:=I bn) (by simp [dF.av]) dw;have t4:=t3.trans w4;obtain⟨K5,u5,M5,w5⟩:=M4.st (by rw [t4.base];exact hb) (r:=H.next) (by first | exact aj | (rw [ay (by omega)];first | exact aj | (rw [ay (by omega)];first | exact aj | (rw [ay (by omega)];first | exact aj | (rw [ay (by omega)];first | exact aj | (rw [ay (by omega)];exact aj)))))) (i:=6) (v:=zN) (by simp [dF.av]) qC;have t5:=t4.trans w5
 have p7:=M5.ld (r:=H.next+1) (i:=7) (v:=B p.flag) (by first | exact aj | (rw [ay (by omega)];first | exact aj | (rw [ay (by omega)];first | exact aj | (rw [ay (by omega)];first | exact aj | (rw [ay (by omega)];first | exact aj | (rw [ay (by omega)];exact aj)))))) rfl;cases hf:p.flag with
 | true=>
  rw [hf] at p7;have q8:=M5.ld (r:=H.next+1) (i:=8) (v:=dat p.data) (by first | exact aj | (rw [ay (by omega)];first | exact aj | (rw [ay (by omega)];first | exact aj | (rw [ay (by omega)];first | exact aj | (rw [ay (by omega)];first | exact aj | (rw [ay (by omega)];exact aj)))))) rfl;have e2:=λH=> jy H p.data hp;obtain⟨K6,u6,M6,w6⟩:=M5.st (by rw [t5.base];exact hb) (r:=H.next) (by first | exact aj | (rw [ay (by omega)];first | exact aj | (rw [ay (by omega)];first | exact aj | (rw [ay (by omega)];first | exact aj | (rw [ay (by omega)];first | exact aj | (rw [ay (by omega)];exact aj)))))) (i:=6) (v:=dat p.data) (by simp [dF.av]) qE;have t6:=t5.trans w6;have f1:=M6.lda (r:=H.next) (by first | exact aj | (rw [ay (by omega)];first | exact aj | (rw [ay (by omega)];first | exact aj | (rw [ay (by omega)];first | exact aj | (rw [ay (by omega)];first | exact aj | (rw [ay (by omega)];exact aj)))))) (i:=0) (n:=9) (ys:=(dF.mk d.bf d.aB d.id 6 1 bn p.data d.next d.told).av) rfl rfl (by decide);obtain⟨K7,u7,v7,M7,w7⟩:=M6.whole (by rw [t6.base];exact hb) (r:=H.next+1+1) (by first | exact aj | (rw [ay (by omega)];first | exact aj | (rw [ay (by omega)];first | exact aj | (rw [ay (by omega)];first | exact aj | (rw [ay (by omega)];first | exact aj | (rw [ay (by omega)];exact aj)))))) (n:=9) (vs:=(dF.mk d.bf d.aB d.id 6 1 bn p.data d.next d.told).av) rfl rfl (by decide) (aZ _);refine⟨K7,?_,M7.out,t6.trans w7⟩;simp only [Nat.reduceLT,Int.reduceNeg,xq_,Yj,CW,aC (aZ d),aC (aK p),d1,d5,p8,e1,a1,u2,u3,u4,u5,p7,q8,e2,u6,f1,u7,v7,rG]
 | false=>
  rw [hf] at p7;have f1:=M5.lda (r:=H.next) (by first | exact aj | (rw [ay (by omega)];first | exact aj | (rw [ay (by omega)];first | exact aj | (rw [ay (by omega)];first | exact aj | (rw [ay (by omega)];first | exact aj | (rw [ay (by omega)];exact aj)))))) (i:=0) (n:=9) (ys:=(dF.mk d.bf d.aB d.id 6 1 bn [] d.next d.told).av) (by simp only [dF.av,Bz];rfl) rfl (by decide);obtain⟨K7,u7,v7,M7,w7⟩:=M5.whole (by rw [t5.base];exact hb) (r:=H.next+1+1) (by first | exact aj | (rw [ay (by omega)];first | exact aj | (rw [ay (by omega)];first | exact aj | (rw [ay (by omega)];first | exact aj | (rw [ay (by omega)];first | exact aj | (rw [ay (by omega)];exact aj)))))) (n:=9) (vs:=(dF.mk d.bf d.aB d.id 6 1 bn [] d.next d.told).av) rfl rfl (by decide) (aZ _);refine⟨K7,?_,M7.out,t5.trans w7⟩;simp only [Nat.reduceLT,Int.reduceNeg,xq_,Yj,CW,aC (aZ d),aC (aK p),d1,d5,p8,e1,a1,u2,u3,u4,u5,p7,f1,u7,v7,rG]
def sV(d:dF)(bn:Int)(c:Cache)(p:Pkt):Nxt:=
 if p.state≠0 then(c,{ d with state:=p.state,head:=p.ptr,told:=p.ptr,data:=p.data,step:=2 },true)
 else((c.put ⟨-1,-1,d.aB,0,false,p.data⟩).1,{ d with told:=p.ptr,step:=6,state:=1,head:=bn,data:=[] },true)
theorem Zf(G:Good b H g)(hb:H.base<=b)(h:g q=some (bJ ca))(C:COk ca)(d:dF)(bn:Int)(p:Pkt)(hp:p.data.length < 1000000000):
  ∃H',cl 162 [.agg d.av,I bn,.ref q 0 0,.agg p.av] H=some (rG (sV d bn ca p),H')/\Good b H' (upd g q (bJ (sV d bn ca p).1))/\Step b H H':=by
 have hb0:H.base<=H.next:=zas hb G.1
 have e2:=λH=> jy H p.data hp;refine jK rfl rfl (akC _ _ _ _ _ _) ?_;by_cases hs:p.state=0;rotate_left
 ·have hm:sV d bn ca p=(ca,{ d with state:=p.state,head:=p.ptr,told:=p.ptr,data:=p.data,step:=2 },true):=by simp only [sV];rw [if_pos hs]
  rw [hm];refine⟨((H.new (.blk 0 62 (dF.mk d.bf d.aB d.id 2 p.state p.ptr p.data d.next p.ptr).av)).new (.blk 0 99 p.av)).new (.blk 0 62 (dF.mk d.bf d.aB d.id 2 p.state p.ptr p.data d.next p.ptr).av),?_,by rw [eU h];exact((G.new _).new _).new _,((Step.new _ G.1).trans (Step.new _ (G.new _).1)).trans (Step.new _ ((G.new _).new _).1)⟩;simp only [Nat.reduceLT,Int.reduceNeg,Nat.reduceAdd,Nat.reduceLeDiff,aG,xq_,hq_,Yi,aC,dF.av,Pkt.av,e2,hb0,ckM,hs,zaf,rG]
 ·have hm:sV d bn ca p=((ca.put ⟨-1,-1,d.aB,0,false,p.data⟩).1,{ d with told:=p.ptr,step:=6,state:=1,head:=bn,data:=[] },true):=by simp only [sV];rw [if_neg (λh=> h hs)]
  rw [hm];let d2:dF:=dF.mk d.bf d.aB d.id d.step p.state p.ptr p.data d.next p.ptr
  have L1:=(Loc.of G).newL (ty:=62) (xs:=d2.av) (r:=H.next) (aZ d2) rfl;have L2:=L1.newL (ty:=99) (xs:=p.av) (r:=H.next+1) (aK p) (by rw [dL]);have L3:=L2.newL (ty:=62) (xs:=zD9) (r:=H.next+1+1) rfl (by rw [dL,dL]);have s3:Step b H _:=((Step.new (.blk 0 62 d2.av) G.1).trans (Step.new (.blk 0 99 p.av) L1.good.1)).trans (Step.new (.blk 0 62 zD9) L2.good.1);have e1:=λH=> YU H d.aB (-1) (-1) false hp (oh H p.data);obtain⟨K1,a1,a2,a3⟩:=y8 L3.good (by rw [s3.base];exact hb) (L3.obj h) C ⟨-1,-1,d.aB,0,false,p.data⟩ hp;have M1:=L3.call h a2;have t1:=s3.trans a3;obtain⟨K2,u2,M2,w2⟩:=M1.st (by rw [t1.base];exact hb) (r:=H.next) (by first | exact aj | (rw [ay (by omega)];first | exact aj | (rw [ay (by omega)];first | exact aj | (rw [ay (by omega)];first | exact aj | (rw [ay (by omega)];first | exact aj | (rw [ay (by omega)];exact aj)))))) (i:=3) (v:=I 6) (by simp [dF.av]) dw;have t2:=t1.trans w2;obtain⟨K3,u3,M3,w3⟩:=M2.st (by rw [t2.base];exact hb) (r:=H.next) (by first | exact aj | (rw [ay (by omega)];first | exact aj | (rw [ay (by omega)];first | exact aj | (rw [ay (by omega)];first | exact aj | (rw [ay (by omega)];first | exact aj | (rw [ay (by omega)];exact aj)))))) (i:=4) (v:=I 1) (by simp [dF.av]) dw;have t3:=t2.trans w3;obtain⟨K4,u4,M4,w4⟩:=M3.st (by rw [t3.base];exact hb) (r:=H.next) (by first | exact aj | (rw [ay (by omega)];first | exact aj | (rw [ay (by omega)];first | exact aj | (rw [ay (by omega)];first | exact aj | (rw [ay (by omega)];first | exact aj | (rw [ay (by omega)];exact aj)))))) (i:=5) (v:=I bn) (by simp [dF.av]) dw;have t4:=t3.trans w4;obtain⟨K5,u5,M5,w5⟩:=M4.st (by rw [t4.base];exact hb) (r:=H.next) (by first | exact aj | (rw [ay (by omega)];first | exact aj | (rw [ay (by omega)];first | exact aj | (rw [ay (by omega)];first | exact aj | (rw [ay (by omega)];first | exact aj | (rw [ay (by omega)];exact aj)))))) (i:=6) (v:=zN) (by simp [dF.av]) qC;have t5:=t4.trans w5;have f1:=M5.lda (r:=H.next) (by first | exact aj | (rw [ay (by omega)];first | exact aj | (rw [ay (by omega)];first | exact aj | (rw [ay (by omega)];first | exact aj | (rw [ay (by omega)];first | exact aj | (rw [ay (by omega)];exact aj)))))) (i:=0) (n:=9) (ys:=(dF.mk d.bf d.aB d.id 6 1 bn [] d.next p.ptr).av) (by simp only [dF.av,Bz];rfl) rfl (by decide);obtain⟨K7,u7,v7,M7,w7⟩:=M5.whole (by rw [t5.base];exact hb) (r:=H.next+1+1) (by first | exact aj | (rw [ay (by omega)];first | exact aj | (rw [ay (by omega)];first | exact aj | (rw [ay (by omega)];first | exact aj | (rw [ay (by omega)];first | exact aj | (rw [ay (by omega)];exact aj)))))) (n:=9) (vs:=(dF.mk d.bf d.aB d.id 6 1 bn [] d.next p.ptr).av) rfl rfl (by decide) (aZ _);refine⟨K7,?_,M7.out,t5.trans w7⟩;simp only [d2,dF.av,Pkt.av,hs,Bz] at a1 f1 u7 v7;simp only [Nat.reduceLT,Int.reduceNeg,Nat.reduceAdd,Nat.reduceLeDiff,aG,xq_,hq_,Yi,aC,dF.av,Pkt.av,e2,hb0,ckM,hs,zad,e1,a1,u2,u3,u4,u5,f1,u7,v7,rG,Bz]
theorem sW(G:Good b H g)(d:dF)(p:Pkt):∃ls:Lcl,Loc b (((H.new (.blk 0 62 d.av)).new (.blk 0 99 p.av)).new (.blk 0 62 zD9)) g ls/\ls H.next=some d.av/\ls (H.next+1)=some p.av/\ls (H.next+1+1)=some zD9/\
  Step b H (((H.new (.blk 0 62 d.av)).new (.blk 0 99 p.av)).new (.blk 0 62 zD9)):=by
 have L1:=(Loc.of G).newL (ty:=62) (xs:=d.av) (r:=H.next) (aZ d) rfl;have L2:=L1.newL (ty:=99) (xs:=p.av) (r:=H.next+1) (aK p) (by rw [dL]);have L3:=L2.newL (ty:=62) (xs:=zD9) (r:=H.next+1+1) rfl (by rw [dL,dL]);exact⟨_,L3,(by first | exact aj | (rw [ay (by omega)];first | exact aj | (rw [ay (by omega)];first | exact aj | (rw [ay (by omega)];first | exact aj | (rw [ay (by omega)];first | exact aj | (rw [ay (by omega)];exact aj)))))),(by first | exact aj | (rw [ay (by omega)];first | exact aj | (rw [ay (by omega)];first | exact aj | (rw [ay (by omega)];first | exact aj | (rw [ay (by omega)];first | exact aj | (rw [ay (by omega)];exact aj)))))),(by first | exact aj | (rw [ay (by omega)];first | exact aj | (rw [ay (by omega)];first | exact aj | (rw [ay (by omega)];first | exact aj | (rw [ay (by omega)];first | exact aj | (rw [ay (by omega)];exact aj)))))),((Step.new (.blk 0 62 d.av) G.1).trans (Step.new (.blk 0 99 p.av) L1.good.1)).trans (Step.new (.blk 0 62 zD9) L2.good.1)⟩
theorem Zg(G:Good b H g)(hb:H.base<=b)(h:g q=some (bJ ca))(C:COk ca)(d:dF)(bn:Int)(p:Pkt)(hp:p.data.length < 1000000000):
  ∃H',cl 128 [.agg d.av,I bn,.ref q 0 0,.agg p.av] H=some (rG (dN d bn ca p),H')/\Good b H' (upd g q (bJ (dN d bn ca p).1))/\Step b H H':=by
 refine jK rfl rfl (ajZ _ _ _ _ _ _) ?_;obtain⟨ls,L,k0,k1,k2,s⟩:=sW G d p;have d0:=L.ld k0 (i:=0) (v:=I d.bf) rfl;have d3:=L.ld k0 (i:=3) (v:=I d.step) rfl;have dA:=L.lda k0 (i:=0) (n:=9) (ys:=d.av) rfl rfl (by decide);have pA:=L.lda k1 (i:=0) (n:=9) (ys:=p.av) rfl rfl (by decide);have hf:=λH=> Qz H d p;have ez:bd 62 []=some (.agg zD9):=by simp only [xq_,WV,jo,dH]
 have hbK:(((H.new (.blk 0 62 d.av)).new (.blk 0 99 p.av)).new (.blk 0 62 zD9)).base<=b:=by rw [s.base];exact hb
 obtain⟨Kz,z1,z2,z3,z4⟩:=L.whole hbK k2 (n:=9) (vs:=zD9) rfl rfl (by decide) rfl;have no:wB ca=(ca,.zero,false):=rfl;have zu:Good b Kz (upd g q (bJ ca)):=by rw [eU h];exact z3.out
 by_cases h1:d.bf≠1∨d.fits p=false
 ·have hm:dN d bn ca p=(ca,.zero,false):=by simp only [dN];rw [if_pos h1];rfl
  rw [hm];refine⟨Kz,?_,zu,s.trans z4⟩;by_cases hk:d.bf=1
  ·have hff:d.fits p=false:=h1.resolve_left (λh=> h hk);rw [hk] at d0;simp only [Nat.reduceLT,xq_,ED,aC (aZ d),aC (aK p),d0,dA,pA,hf,hff,zad,zaf,ez,z1,z2,rG,kJ]
  ·simp only [Nat.reduceLT,xq_,ED,aC (aZ d),aC (aK p),d0,hk,zaf,ez,z1,z2,rG,kJ]
 ·have hk:d.bf=1:=Classical.byContradiction λh=> h1 (.inl h);have hff:d.fits p=true:=by cases hx:d.fits p <;> simp_all
  rw [hk] at d0;by_cases s1:d.step=1
  ·have hm:dN d bn ca p=sV d bn ca p:=by simp only [dN,sV];rw [if_neg h1,if_pos s1]
   rw [hm];rw [s1] at d3;obtain⟨K1,a1,a2,a3⟩:=Zf L.good hbK (L.obj h) C d bn p hp;have M:=L.call h a2;obtain⟨K2,u1,u2,u3,u4⟩:=M.whole (by rw [a3.base];exact hbK) k2 (n:=9) (vs:=(sV d bn ca p).2.1.av) rfl rfl (by decide) (aZ _);refine⟨K2,?_,u3.out,(s.trans a3).trans u4⟩;simp only [rG] at a1;simp only [Nat.reduceLT,Int.reduceEq,xq_,ED,aC (aZ d),aC (aK p),d0,dA,pA,hf,hff,zad,d3,a1,u1,u2,rG]
  ·by_cases s2:d.step=2
   ·have hm:dN d bn ca p=((ca.put ⟨d.head,-1,d.aB,0,false,p.data⟩).1,{ d with step:=6,state:=1,head:=bn,data:=if p.flag then p.data else [] },true):=by simp only [dN];rw [if_neg h1,if_neg s1,if_pos s2]
    rw [hm];obtain⟨K1,a1,a2,a3⟩:=agD L.good hbK (L.obj h) C d bn p hp;have M:=L.call h a2;obtain⟨K2,u1,u2,u3,u4⟩:=M.whole (by rw [a3.base];exact hbK) k2 (n:=9) (vs:=({ d with step:=6,state:=1,head:=bn,data:=if p.flag then p.data else [] }:dF).av) rfl rfl (by decide) (aZ _);refine⟨K2,?_,u3.out,(s.trans a3).trans u4⟩;rw [s2] at d3;simp only [rG] at a1;simp only [Nat.reduceLT,Int.reduceEq,xq_,ED,aC (aZ d),aC (aK p),d0,dA,pA,hf,hff,zad,d3,a1,u1,u2,rG]
   ·by_cases s6:d.step=6
    ·have hm:dN d bn ca p=(ca,{ d with step:=0 },true):=by simp only [dN];rw [if_neg h1,if_neg s1,if_neg s2,if_pos s6]
     rw [hm];obtain⟨K1,a1,M,a3⟩:=L.st hbK k0 (i:=3) (v:=I 0) (by simp [dF.av]) dw;have k2':gV ls H.next (d.av.set 3 (I 0)) (H.next+1+1)=some zD9:=by rw [ay (by omega)];exact k2
     have dB:=M.lda aj (i:=0) (n:=9) (ys:=({ d with step:=0 }:dF).av) rfl rfl (by decide);obtain⟨K2,u1,u2,u3,u4⟩:=M.whole (by rw [a3.base];exact hbK) k2' (n:=9) (vs:=({ d with step:=0 }:dF).av) rfl rfl (by decide) (aZ _);refine⟨K2,?_,by rw [eU h];exact u3.out,(s.trans a3).trans u4⟩;rw [s6] at d3;simp only [Nat.reduceLT,Int.reduceEq,xq_,ED,aC (aZ d),aC (aK p),d0,dA,pA,hf,hff,zad,d3,a1,dB,u1,u2,rG]
    ·have hm:dN d bn ca p=(ca,.zero,false):=by simp only [dN];rw [if_neg h1,if_neg s1,if_neg s2,if_neg s6];rfl
     rw [hm];refine⟨Kz,?_,zu,s.trans z4⟩;simp only [Nat.reduceLT,xq_,ED,aC (aZ d),aC (aK p),d0,dA,pA,hf,hff,zad,d3,s1,s2,s6,ez,z1,z2,rG,kJ]
end
abbrev zE6:List AV:=[zI,zI,zI,zI,zB,zN]
theorem mY {n r gg i:Nat}{v u:AV}{K K':ah}(h:st n (.ref r gg i) v K=some (u,K')){x:Nat}(hx:x≠r):K'.get x=K.get x:=by
 unfold st at h;simp only at h;cases hr:K.get r with
 | map k es=> rw [hr] at h;cases h
 | blk g' ty cells=>
  rw [hr] at h;simp only at h;split at h
  ·simp only [zaa,zae] at h;rw [<-h.2,bQ,if_neg hx]
  ·cases h
section
variable {b:Nat}{H:ah}{g:bg}{q:Nat}{ca:Cache}
def sZ(d:dF)(bn:Int)(c:Cache):Cache × dF:=
 if d.next≠-1 then(c,{ d with step:=3 })
 else((c.put ⟨-1,-1,d.aB,0,true,d.data⟩).1,{ d with step:=6,state:=2,head:=bn,data:=[] })
theorem Ap {K:ah}{ls:Lcl}(L:Loc b K g ls)(hb:K.base<=b)(h:g q=some (bJ ca))(C:COk ca)(d:dF)(bn:Int)(hd:d.data.length < 1000000000){r r':Nat}(hrr:r≠r')(k0:ls r=some d.av)(k1:ls r'=some zD9):
  ∃H',yP cl (I bn) (.ref q 0 0) (.ref r 0 0) (.ref r' 0 0) K=some (.agg (sZ d bn ca).2.av,H')/\Good b H' (upd g q (bJ (sZ d bn ca).1))/\Step b K H':=by
 have d7:=L.ld k0 (i:=7) (v:=I d.next) rfl;by_cases hn:d.next=-1
 rotate_left
 ·have hm:sZ d bn ca=(ca,{ d with step:=3 }):=by unfold sZ;rw [if_pos hn]
  rw [hm];obtain⟨K1,a1,M1,a3⟩:=L.st hb k0 (i:=3) (v:=I 3) (by simp [dF.av]) dw;have k2':gV ls r (d.av.set 3 (I 3)) r'=some zD9:=by rw [ay hrr.symm];exact k1
  have dB:=M1.lda aj (i:=0) (n:=9) (ys:=({ d with step:=3 }:dF).av) rfl rfl (by decide);obtain⟨K2,u1,u2,u3,u4⟩:=M1.whole (by rw [a3.base];exact hb) k2' (n:=9) (vs:=({ d with step:=3 }:dF).av) rfl rfl (by decide) (aZ _);refine⟨K2,?_,by rw [eU h];exact u3.out,a3.trans u4⟩;simp only [Int.reduceNeg,xq_,yP,d7,hn,zaf,a1,dB,u1,u2]
 ·have hm:sZ d bn ca=((ca.put ⟨-1,-1,d.aB,0,true,d.data⟩).1,{ d with step:=6,state:=2,head:=bn,data:=[] }):=by unfold sZ;rw [if_neg (λh=> h hn)]
  rw [hm];have d1:=L.ld k0 (i:=1) (v:=I d.aB) rfl;have d6:=L.ld k0 (i:=6) (v:=dat d.data) rfl;have e1:=λH=> YU H d.aB (-1) (-1) true hd (oh H d.data);obtain⟨K1,a1,a2,a3⟩:=y8 L.good hb (L.obj h) C ⟨-1,-1,d.aB,0,true,d.data⟩ hd;have M1:=L.call h a2;obtain⟨K2,u2,M2,w2⟩:=M1.st (by rw [a3.base];exact hb) k0 (i:=3) (v:=I 6) (by simp [dF.av]) dw;have t2:=a3.trans w2;obtain⟨K3,u3,M3,w3⟩:=M2.st (by rw [t2.base];exact hb) aj (i:=4) (v:=I 2) (by simp [dF.av]) dw;have t3:=t2.trans w3;obtain⟨K4,u4,M4,w4⟩:=M3.st (by rw [t3.base];exact hb) aj (i:=5) (v:=I bn) (by simp [dF.av]) dw;have t4:=t3.trans w4;obtain⟨K5,u5,M5,w5⟩:=M4.st (by rw [t4.base];exact hb) aj (i:=6) (v:=zN) (by simp [dF.av]) qC;have t5:=t4.trans w5;have f1:=M5.lda aj (i:=0) (n:=9) (ys:=(dF.mk d.bf d.aB d.id 6 2 bn [] d.next d.told).av) (by simp only [dF.av,Bz];rfl) rfl (by decide);have hne:r'≠r:=hrr.symm;obtain⟨K7,u7,v7,M7,w7⟩:=M5.whole (by rw [t5.base];exact hb) (r:=r') (xs:=zD9) (by rw [ay hne,ay hne,ay hne,ay hne];exact k1) (n:=9) (vs:=(dF.mk d.bf d.aB d.id 6 2 bn [] d.next d.told).av) rfl rfl (by decide) (aZ _);refine⟨K7,?_,M7.out,t5.trans w7⟩;simp only [hn] at u7 v7;simp only [Int.reduceNeg,xq_,yP,d7,hn,zad,d1,d6,e1,a1,u2,u3,u4,u5,f1,u7,v7]
theorem agE(G:Good b H g)(hb:H.base<=b)(h:g q=some (bJ ca))(C:COk ca)(d:dF)(bn:Int)(hd:d.data.length < 1000000000):
  ∃H',cl 164 [.agg d.av,I bn,.ref q 0 0] H=some (.agg (bP d bn ca).2.av,H')/\Good b H' (upd g q (bJ (bP d bn ca).1))/\Step b H H':=by
 refine jK rfl rfl (akE _ _ _ _ _) ?_;have L1:=(Loc.of G).newL (ty:=62) (xs:=d.av) (r:=H.next) (aZ d) rfl;have L2:=L1.newL (ty:=62) (xs:=zD9) (r:=H.next+1) rfl (by rw [dL]);have d1:=L2.ld (r:=H.next) (i:=1) (v:=I d.aB) (by(repeat rw [ay (by omega)]);first | exact k0 | exact k1 | exact k2 | rw [aj]) rfl;have ef:=lM L2.good (L2.obj h) C.len C.dat d.aB;have L3:=L2.newL (ty:=117) (xs:=zE6) (r:=H.next+1+1) rfl (by rw [dL,dL]);have s3:Step b H _:=((Step.new (.blk 0 62 d.av) G.1).trans (Step.new (.blk 0 62 zD9) L1.good.1)).trans (Step.new (.blk 0 117 zE6) L2.good.1);obtain⟨K1,z1,z2,M,z4⟩:=L3.whole (by rw [s3.base];exact hb) (r:=H.next+1+1) (xs:=zE6) (by(repeat rw [ay (by omega)]);first | exact k0 | exact k1 | exact k2 | rw [aj]) (n:=6) (vs:=((ca.find d.aB).getD .zero).av) rfl rfl (by decide) (jf _);have t1:=s3.trans z4;have d7:=M.ld (r:=H.next) (i:=7) (v:=I d.next) (by(repeat rw [ay (by omega)]);first | exact k0 | exact k1 | exact k2 | rw [aj]) rfl;simp only [iV] at ef;cases hfd:ca.find d.aB with
 | none=>
  have hm:bP d bn ca=sZ d bn ca:=by simp only [bP,hfd];rfl
  rw [hm];rw [hfd] at ef z1;simp only [zaB] at ef;obtain⟨K2,u1,u2,u3⟩:=Ap M (by rw [t1.base];exact hb) h C d bn hd (r:=H.next) (r':=H.next+1) (by omega) (by(repeat rw [ay (by omega)]);first | exact k0 | exact k1 | exact k2 | rw [aj]) (by(repeat rw [ay (by omega)]);first | exact k0 | exact k1 | exact k2 | rw [aj]);refine⟨K2,?_,u2,t1.trans u3⟩;by_cases hn:d.next=bn
  ·rw [hn] at d7;simp only [Nat.reduceLT,xq_,MQ,aC (aZ d),d1,ef,z1,d7];exact u1
  ·simp only [Nat.reduceLT,xq_,MQ,aC (aZ d),d1,ef,z1,d7,hn];exact u1
 | some own=>
  rw [hfd] at ef z1 M;simp only [zaG,zat] at ef z1 M;by_cases hn:d.next=bn
  ·have hm:bP d bn ca=sZ { d with next:=own.fwd } bn ca:=by simp only [bP,hfd];rw [if_pos hn];rfl
   rw [hm];have e0:=M.ld (r:=H.next+1+1) (i:=0) (v:=I own.fwd) (by(repeat rw [ay (by omega)]);first | exact k0 | exact k1 | exact k2 | rw [aj]) rfl;obtain⟨K2,y1,M2,y3⟩:=M.st (by rw [t1.base];exact hb) (r:=H.next) (xs:=d.av) (by(repeat rw [ay (by omega)]);first | exact k0 | exact k1 | exact k2 | rw [aj]) (i:=7) (v:=I own.fwd) (by simp [dF.av]) dw;have t2:=t1.trans y3;obtain⟨K3,u1,u2,u3⟩:=Ap M2 (by rw [t2.base];exact hb) h C { d with next:=own.fwd } bn hd (r:=H.next) (r':=H.next+1) (by omega) (by rw [aj];rfl) (by(repeat rw [ay (by omega)]);first | exact k0 | exact k1 | exact k2 | rw [aj]);refine⟨K3,?_,u2,t2.trans u3⟩;rw [hn] at d7;simp only [Nat.reduceLT,xq_,MQ,aC (aZ d),d1,ef,z1,d7,e0,y1];exact u1
  ·have hm:bP d bn ca=sZ d bn ca:=by simp only [bP,hfd];rw [if_neg hn];rfl
   rw [hm];obtain⟨K2,u1,u2,u3⟩:=Ap M (by rw [t1.base];exact hb) h C d bn hd (r:=H.next) (r':=H.next+1) (by omega) (by(repeat rw [ay (by omega)]);first | exact k0 | exact k1 | exact k2 | rw [aj]) (by(repeat rw [ay (by omega)]);first | exact k0 | exact k1 | exact k2 | rw [aj]);refine⟨K2,?_,u2,t1.trans u3⟩;simp only [Nat.reduceLT,xq_,MQ,aC (aZ d),d1,ef,z1,d7,hn];exact u1
theorem y9 {K:ah}{ls:Lcl}(L:Loc b K g ls)(hb:K.base<=b)(h:g q=some (bJ ca))(C:COk ca)(d:dF)(bn:Int)(hd:d.data.length < 1000000000){r r':Nat}(k0:ls r=some d.av)(k1:ls r'=some zD9):
  ∃K1 H',lda 9 (.ref r 0 0) K=some (.agg d.av,K)/\cl 164 [.agg d.av,I bn,.ref q 0 0] K=some (.agg (bP d bn ca).2.av,K1)/\st 9 (.ref r' 0 0) (.agg (bP d bn ca).2.av) K1=some (aO,H')/\
   lda 9 (.ref r' 0 0) H'=some (.agg (bP d bn ca).2.av,H')/\Good b H' (upd g q (bJ (bP d bn ca).1))/\Step b K H':=by
 obtain⟨K1,a1,a2,a3⟩:=agE L.good hb (L.obj h) C d bn hd;have M:=L.call h a2;obtain⟨K2,u1,u2,u3,u4⟩:=M.whole (by rw [a3.base];exact hb) k1 (n:=9) (vs:=(bP d bn ca).2.av) rfl rfl (by decide) (aZ _);exact⟨K1,K2,L.lda k0 (i:=0) (n:=9) (ys:=d.av) rfl rfl (by decide),a1,u1,u2,u3.out,a3.trans u4⟩
theorem abR(G:Good b H g)(hb:H.base<=b)(h:g q=some (bJ ca))(C:COk ca)(d:dF)(bn:Int)(p:Pkt)(hd:d.data.length < 1000000000)(hp:p.data.length < 1000000000):
  ∃H',cl 129 [.agg d.av,I bn,.ref q 0 0,.agg p.av] H=some (rG (dM d bn ca p),H')/\Good b H' (upd g q (bJ (dM d bn ca p).1))/\Step b H H':=by
 refine jK rfl rfl (aj1 _ _ _ _ _ _) ?_;obtain⟨ls,L,k0,k1,k2,s⟩:=sW G d p;have d0:=L.ld k0 (i:=0) (v:=I d.bf) rfl;have d1:=L.ld k0 (i:=1) (v:=I d.aB) rfl;have dA:=L.lda k0 (i:=0) (n:=9) (ys:=d.av) rfl rfl (by decide);have pA:=L.lda k1 (i:=0) (n:=9) (ys:=p.av) rfl rfl (by decide);have hf:=λH=> Qz H d p;have ez:bd 62 []=some (.agg zD9):=by simp only [xq_,WV,jo,dH]
 have hbK:(((H.new (.blk 0 62 d.av)).new (.blk 0 99 p.av)).new (.blk 0 62 zD9)).base<=b:=by rw [s.base];exact hb
 obtain⟨Kz,z1,z2,z3,z4⟩:=L.whole hbK k2 (n:=9) (vs:=zD9) rfl rfl (by decide) rfl;have zu:Good b Kz (upd g q (bJ ca)):=by rw [eU h];exact z3.out
 by_cases h1:d.bf≠2∨d.fits p=false
 ·have hm:dM d bn ca p=(ca,.zero,false):=by simp only [dM];rw [if_pos h1];rfl
  rw [hm];refine⟨Kz,?_,zu,s.trans z4⟩;by_cases hk:d.bf=2
  ·have hff:d.fits p=false:=h1.resolve_left (λh=> h hk);rw [hk] at d0;simp only [Nat.reduceLT,xq_,yK,aC (aZ d),aC (aK p),d0,dA,pA,hf,hff,zad,zaf,ez,z1,z2,rG,kJ]
  ·simp only [Nat.reduceLT,xq_,yK,aC (aZ d),aC (aK p),d0,hk,zaf,ez,z1,z2,rG,kJ]
 ·have hk:d.bf=2:=Classical.byContradiction λh=> h1 (.inl h);have hff:d.fits p=true:=by cases hx:d.fits p <;> simp_all
  rw [hk] at d0;have ef:=lM L.good (L.obj h) C.len C.dat d.aB;simp only [iV] at ef;have LE:=L.newL (ty:=117) (xs:=zE6) (r:=H.next+1+1+1) rfl (by rw [dL,dL,dL]);have sE:Step b H _:=s.trans (Step.new (.blk 0 117 zE6) L.good.1);obtain⟨KE,x1,x2,M,x4⟩:=LE.whole (by rw [sE.base];exact hb) (r:=H.next+1+1+1) (xs:=zE6) (by(repeat rw [ay (by omega)]);first | exact k0 | exact k1 | exact k2 | rw [aj]) (n:=6) (vs:=((ca.find d.aB).getD .zero).av) rfl rfl (by decide) (jf _);have t1:=sE.trans x4;have d3:=M.ld (r:=H.next) (xs:=d.av) (i:=3) (v:=I d.step) (by(repeat rw [ay (by omega)]);first | exact k0 | exact k1 | exact k2 | rw [aj]) rfl;have hbE:KE.base<=b:=by rw [t1.base];exact hb
  have e5:=M.ld (r:=H.next+1+1+1) (i:=5) (v:=dat ((ca.find d.aB).getD .zero).data) (by(repeat rw [ay (by omega)]);first | exact k0 | exact k1 | exact k2 | rw [aj]) rfl;have hown:((ca.find d.aB).getD .zero).data.length < 1000000000:=by
   cases hx:ca.find d.aB with
   | none=> exact(by decide:([]:List Int).length < 1000000000)
   | some own=> exact C.dat own (zbh hx)
  have e2:=λH=> jy H p.data hp;by_cases s1:d.step=1
  ·rw [s1] at d3;have p6:=M.ld (r:=H.next+1) (xs:=p.av) (i:=6) (v:=I p.state) (by(repeat rw [ay (by omega)]);first | exact k0 | exact k1 | exact k2 | rw [aj]) rfl;have p5:=M.ld (r:=H.next+1) (xs:=p.av) (i:=5) (v:=I p.ptr) (by(repeat rw [ay (by omega)]);first | exact k0 | exact k1 | exact k2 | rw [aj]) rfl;have p8:=M.ld (r:=H.next+1) (xs:=p.av) (i:=8) (v:=dat p.data) (by(repeat rw [ay (by omega)]);first | exact k0 | exact k1 | exact k2 | rw [aj]) rfl;obtain⟨K2,u2,M2,w2⟩:=M.st hbE (r:=H.next) (xs:=d.av) (by(repeat rw [ay (by omega)]);first | exact k0 | exact k1 | exact k2 | rw [aj]) (i:=4) (v:=I p.state) (by simp [dF.av]) dw;have t2:=t1.trans w2;obtain⟨K3,u3,M3,w3⟩:=M2.st (by rw [t2.base];exact hb) (r:=H.next) aj (i:=5) (v:=I p.ptr) (by simp [dF.av]) dw;have t3:=t2.trans w3;obtain⟨K4,u4,M4,w4⟩:=M3.st (by rw [t3.base];exact hb) (r:=H.next) aj (i:=8) (v:=I p.ptr) (by simp [dF.av]) dw;have t4:=t3.trans w4;obtain⟨K5,u5,M5,w5⟩:=M4.st (by rw [t4.base];exact hb) (r:=H.next) aj (i:=6) (v:=dat p.data) (by simp [dF.av]) qE;have t5:=t4.trans w5;have c1:∀{β:Type} (k:Option β),ck (bD (.ref (H.next+1) 0 5)) KE K2 k=k:=λk=> tK (mY u2 (by omega));have c2:∀{β:Type} (k:Option β),ck (bD (.ref (H.next+1) 0 5)) K2 K3 k=k:=λk=> tK (mY u3 (by omega));cases hx:ca.find d.aB with
   | none=>
    have hm:dM d bn ca p=((bP { d with state:=p.state,head:=p.ptr,told:=p.ptr,data:=p.data,next:=p.ptr } bn ca).1,(bP { d with state:=p.state,head:=p.ptr,told:=p.ptr,data:=p.data,next:=p.ptr } bn ca).2,true):=by
     simp only [dM,hx];rw [if_neg h1,if_pos s1]
    rw [hm];rw [hx] at ef x1;simp only [zaB] at ef;have n5:=M5.ld (r:=H.next) aj (i:=5) (v:=I p.ptr) rfl;obtain⟨K6,u6,M6,w6⟩:=M5.st (by rw [t5.base];exact hb) (r:=H.next) aj (i:=7) (v:=I p.ptr) (by simp [dF.av]) dw;have t6:=t5.trans w6;obtain⟨K7,K8,v1,v2,v3,v4,v5,v6⟩:=y9 M6 (by rw [t6.base];exact hb) h C { d with state:=p.state,head:=p.ptr,told:=p.ptr,data:=p.data,next:=p.ptr } bn hp (r:=H.next) (r':=H.next+1+1) (by rw [aj];rfl) (by(repeat rw [ay (by omega)]);first | exact k0 | exact k1 | exact k2 | rw [aj]);refine⟨K8,?_,v5,t6.trans v6⟩;simp only [Nat.reduceLT,Int.reduceEq,xq_,yK,aC (aZ d),aC (aK p),d0,dA,pA,hf,hff,zad,d1,ef,x1,d3,p6,p5,p8,e2,u2,u3,u4,u5,c1,c2,Cj,n5,u6,v1,v2,v3,v4,rG]
   | some own=>
    have hm:dM d bn ca p=((bP { d with state:=p.state,head:=p.ptr,told:=p.ptr,data:=own.data,next:=p.ptr } bn ca).1,(bP { d with state:=p.state,head:=p.ptr,told:=p.ptr,data:=own.data,next:=p.ptr } bn ca).2,true):=by
     simp only [dM,hx];rw [if_neg h1,if_pos s1]
    rw [hm];rw [hx] at ef x1 e5;simp only [zaG,zat] at ef x1 e5;have e5':=M5.ld (r:=H.next+1+1+1) (i:=5) (v:=dat ((ca.find d.aB).getD .zero).data) (by(repeat rw [ay (by omega)]);first | exact k0 | exact k1 | exact k2 | rw [aj]) rfl;rw [hx] at e5';simp only [zat] at e5';obtain⟨K5',u5',M5',w5'⟩:=M5.st (by rw [t5.base];exact hb) (r:=H.next) aj (i:=6) (v:=dat own.data) (by simp [dF.av]) qE;have t5':=t5.trans w5';have n5:=M5'.ld (r:=H.next) aj (i:=5) (v:=I p.ptr) rfl;obtain⟨K6,u6,M6,w6⟩:=M5'.st (by rw [t5'.base];exact hb) (r:=H.next) aj (i:=7) (v:=I p.ptr) (by simp [dF.av]) dw;have t6:=t5'.trans w6;obtain⟨K7,K8,v1,v2,v3,v4,v5,v6⟩:=y9 M6 (by rw [t6.base];exact hb) h C { d with state:=p.state,head:=p.ptr,told:=p.ptr,data:=own.data,next:=p.ptr } bn (C.dat own (zbh hx)) (r:=H.next) (r':=H.next+1+1) (by rw [aj];rfl) (by(repeat rw [ay (by omega)]);first | exact k0 | exact k1 | exact k2 | rw [aj]);refine⟨K8,?_,v5,t6.trans v6⟩;simp only [Nat.reduceLT,Int.reduceEq,xq_,yK,aC (aZ d),aC (aK p),d0,dA,pA,hf,hff,zad,d1,ef,x1,d3,p6,p5,p8,e2,u2,u3,u4,u5,c1,c2,e5',u5',Cj,n5,u6,v1,v2,v3,v4,rG]
  ·by_cases s3:d.step=3
   ·rw [s3] at d3;cases hx:ca.find d.aB with
    | none=>
     have hm:dM d bn ca p=((bP { d with data:=p.data,next:=p.ptr } bn ca).1,(bP { d with data:=p.data,next:=p.ptr } bn ca).2,true):=by
      simp only [dM,hx];rw [if_neg h1,if_neg s1,if_pos s3]
     rw [hm];rw [hx] at ef x1;simp only [zaB] at ef;have p8:=M.ld (r:=H.next+1) (xs:=p.av) (i:=8) (v:=dat p.data) (by(repeat rw [ay (by omega)]);first | exact k0 | exact k1 | exact k2 | rw [aj]) rfl;obtain⟨K5,u5,M5,w5⟩:=M.st hbE (r:=H.next) (xs:=d.av) (by(repeat rw [ay (by omega)]);first | exact k0 | exact k1 | exact k2 | rw [aj]) (i:=6) (v:=dat p.data) (by simp [dF.av]) qE;have t5:=t1.trans w5;have p5:=M5.ld (r:=H.next+1) (xs:=p.av) (i:=5) (v:=I p.ptr) (by(repeat rw [ay (by omega)]);first | exact k0 | exact k1 | exact k2 | rw [aj]) rfl;obtain⟨K6,u6,M6,w6⟩:=M5.st (by rw [t5.base];exact hb) (r:=H.next) aj (i:=7) (v:=I p.ptr) (by simp [dF.av]) dw;have t6:=t5.trans w6;obtain⟨K7,K8,v1,v2,v3,v4,v5,v6⟩:=y9 M6 (by rw [t6.base];exact hb) h C { d with data:=p.data,next:=p.ptr } bn hp (r:=H.next) (r':=H.next+1+1) (by rw [aj];rfl) (by(repeat rw [ay (by omega)]);first | exact k0 | exact k1 | exact k2 | rw [aj]);refine⟨K8,?_,v5,t6.trans v6⟩;simp only [Nat.reduceLT,Int.reduceEq,xq_,yK,aC (aZ d),aC (aK p),d0,dA,pA,hf,hff,zad,zaf,d1,ef,x1,d3,p5,p8,e2,u5,Cm,u6,v1,v2,v3,v4,rG]
    | some own=>
     have hm:dM d bn ca p=((bP { d with data:=d.data,next:=p.ptr } bn ca).1,(bP { d with data:=d.data,next:=p.ptr } bn ca).2,true):=by
      simp only [dM,hx];rw [if_neg h1,if_neg s1,if_pos s3]
     rw [hm];rw [hx] at ef x1;simp only [zaG,zat] at ef x1;have p5:=M.ld (r:=H.next+1) (xs:=p.av) (i:=5) (v:=I p.ptr) (by(repeat rw [ay (by omega)]);first | exact k0 | exact k1 | exact k2 | rw [aj]) rfl;obtain⟨K6,u6,M6,w6⟩:=M.st hbE (r:=H.next) (xs:=d.av) (by(repeat rw [ay (by omega)]);first | exact k0 | exact k1 | exact k2 | rw [aj]) (i:=7) (v:=I p.ptr) (by simp [dF.av]) dw;have t6:=t1.trans w6;obtain⟨K7,K8,v1,v2,v3,v4,v5,v6⟩:=y9 M6 (by rw [t6.base];exact hb) h C { d with data:=d.data,next:=p.ptr } bn hd (r:=H.next) (r':=H.next+1+1) (by rw [aj];rfl) (by(repeat rw [ay (by omega)]);first | exact k0 | exact k1 | exact k2 | rw [aj]);refine⟨K8,?_,v5,t6.trans v6⟩;simp only [Nat.reduceLT,Int.reduceEq,xq_,yK,aC (aZ d),aC (aK p),d0,dA,pA,hf,hff,zad,d1,ef,x1,d3,p5,Cm,u6,v1,v2,v3,v4,rG]
   ·by_cases s6:d.step=6
    ·have hm:dM d bn ca p=(ca,{ d with step:=0 },true):=by simp only [dM];rw [if_neg h1,if_neg s1,if_neg s3,if_pos s6]
     rw [hm];obtain⟨K1,a1,M1,a3⟩:=M.st hbE (r:=H.next) (xs:=d.av) (by(repeat rw [ay (by omega)]);first | exact k0 | exact k1 | exact k2 | rw [aj]) (i:=3) (v:=I 0) (by simp [dF.av]) dw;have dB:=M1.lda aj (i:=0) (n:=9) (ys:=({ d with step:=0 }:dF).av) rfl rfl (by decide);obtain⟨K2,u1,u2,u3,u4⟩:=M1.whole (by rw [a3.base];exact hbE) (r:=H.next+1+1) (xs:=zD9) (by(repeat rw [ay (by omega)]);first | exact k0 | exact k1 | exact k2 | rw [aj]) (n:=9) (vs:=({ d with step:=0 }:dF).av) rfl rfl (by decide) (aZ _);refine⟨K2,?_,by rw [eU h];exact u3.out,(t1.trans a3).trans u4⟩;rw [s6] at d3;simp only [Nat.reduceLT,Int.reduceEq,xq_,yK,aC (aZ d),aC (aK p),d0,dA,pA,hf,hff,zad,d1,ef,x1,d3,a1,dB,u1,u2,rG]
    ·have hm:dM d bn ca p=(ca,.zero,false):=by simp only [dM];rw [if_neg h1,if_neg s1,if_neg s3,if_neg s6];rfl
     rw [hm];obtain⟨K2,u1,u2,u3,u4⟩:=M.whole hbE (r:=H.next+1+1) (xs:=zD9) (by(repeat rw [ay (by omega)]);first | exact k0 | exact k1 | exact k2 | rw [aj]) (n:=9) (vs:=zD9) rfl rfl (by decide) rfl;refine⟨K2,?_,by rw [eU h];exact u3.out,t1.trans u4⟩;simp only [Nat.reduceLT,xq_,yK,aC (aZ d),aC (aK p),d0,dA,pA,hf,hff,zad,d1,ef,x1,d3,s1,s3,s6,ez,u1,u2,rG,kJ]
end
section
variable {b:Nat}{H:ah}{g:bg}{q:Nat}{ca:Cache}
theorem Loc.ext {K K':ah}{ls:Lcl}(L:Loc b K g ls)(M:Made K K' oW):Loc b K' g ls:=⟨L.good.ext M.next M.same,L.free⟩
theorem alF(G:Good b H g)(hb:H.base<=b)(h:g q=some (bJ ca))(C:COk ca)(d:dF)(head:Int):
  ∃H',cl 166 [.agg d.av,.ref q 0 0,I head] H=some (.agg (ig d ca head).2.1.av,H')/\Good b H' (upd g q (bJ (ig d ca head).1))/\Step b H H':=by
 refine jK rfl rfl (akH _ _ _ _ _) ?_;have L1:=(Loc.of G).newL (ty:=62) (xs:=d.av) (r:=H.next) (aZ d) rfl;have L2:=L1.newL (ty:=62) (xs:=zD9) (r:=H.next+1) rfl (by rw [dL]);have s2:Step b H _:=(Step.new (.blk 0 62 d.av) G.1).trans (Step.new (.blk 0 62 zD9) L1.good.1);have d1:=L2.ld (r:=H.next) (i:=1) (v:=I d.aB) (by(repeat rw [ay (by omega)]);rw [aj]) rfl;obtain⟨K1,a1,a2,a3⟩:=EN L2.good (by rw [s2.base];exact hb) (L2.obj h) C.len C.dat d.aB;have M1:=L2.call h a2;have t1:=s2.trans a3;obtain⟨K2,u2,M2,w2⟩:=M1.st (by rw [t1.base];exact hb) (r:=H.next) (xs:=d.av) (by(repeat rw [ay (by omega)]);rw [aj]) (i:=3) (v:=I 6) (by simp [dF.av]) dw;have t2:=t1.trans w2;obtain⟨K3,u3,M3,w3⟩:=M2.st (by rw [t2.base];exact hb) (r:=H.next) aj (i:=4) (v:=I 1) (by simp [dF.av]) dw;have t3:=t2.trans w3;obtain⟨K4,u4,M4,w4⟩:=M3.st (by rw [t3.base];exact hb) (r:=H.next) aj (i:=5) (v:=I head) (by simp [dF.av]) dw;have t4:=t3.trans w4;obtain⟨K5,u5,M5,w5⟩:=M4.st (by rw [t4.base];exact hb) (r:=H.next) aj (i:=6) (v:=zN) (by simp [dF.av]) qC;have t5:=t4.trans w5;have f1:=M5.lda (r:=H.next) aj (i:=0) (n:=9) (ys:=(ig d ca head).2.1.av) (by simp only [ig,dF.av,Bz];rfl) rfl (by decide);obtain⟨K7,u7,v7,M7,w7⟩:=M5.whole (by rw [t5.base];exact hb) (r:=H.next+1) (xs:=zD9) (by(repeat rw [ay (by omega)]);rw [aj]) (n:=9) (vs:=(ig d ca head).2.1.av) rfl rfl (by decide) (aZ _);refine⟨K7,?_,M7.out,t5.trans w7⟩;simp only [Nat.reduceLT,xq_,aee,aC (aZ d),d1,a1,u2,u3,u4,u5,f1,u7,v7]
abbrev lnk(f bk:Int):List AV:=[I f,I bk]
theorem Zh(H:ah)(f bk:Int):∃H',cl 194 [.agg (lnk f bk)] H=some (B (decide (bk=-1)),H')/\(H.base<=H.next->Made H H' oW):=by
 refine⟨H.new (.blk 0 115 (lnk f bk)),aX rfl rfl (akX _ _ _ ?_),λhb=> (Made.refl hb).new _⟩;simp only [Nat.reduceLT,Int.reduceNeg,xq_,hq_,aen,aC]
theorem agF(H:ah)(f bk:Int):∃H',cl 205 [.agg (lnk f bk)] H=some (B (decide (f=-1)),H')/\(H.base<=H.next->Made H H' oW):=by
 refine⟨H.new (.blk 0 115 (lnk f bk)),aX rfl rfl (ak3 _ _ _ ?_),λhb=> (Made.refl hb).new _⟩;simp only [Nat.reduceLT,Int.reduceNeg,xq_,hq_,aep,aC]
theorem agG(H:ah)(hb0:H.base<=H.next)(f bk:Int):∃H',cl 193 [.agg (lnk f bk)] H=some (B (decide (bk=-1/\f=-1)),H')/\Made H H' oW:=by
 let H1:=H.new (.blk 0 115 (lnk f bk));have g1:H1.get H.next=.blk 0 115 (lnk f bk):=aJ rfl
 have l1:lda 2 (.ref H.next 0 0) H1=some (.agg (lnk f bk),H1):=(fO (off:=0) (n:=2) g1 (zac 2)).trans rfl;obtain⟨H2,e1,M1⟩:=Zh H1 f bk;by_cases h:bk=-1
 ·have hd:decide (bk=-1)=true:=decide_eq_true h;rw [hd] at e1;have hb:H1.base<=H1.next:=by simp only [H1,iC,dL];omega
  have M:=M1 hb;have l2:lda 2 (.ref H.next 0 0) H2=some (.agg (lnk f bk),H2):=(fO (g:=0) (ty:=115) (off:=0) (n:=2) (xs:=lnk f bk) (by rw [M.same _ (by simp only [H1,dL];omega)];exact g1) (zac 2)).trans rfl;obtain⟨H3,e2,M2⟩:=agF H2 f bk;have M3:=M2 (by rw [M.base];exact zas hb M.next);have M4:Made H1 H3 oW:=⟨zas M.next M3.next,M3.base.trans M.base,λr hr=> by rw [M3.same r (zau hr M.next),M.same r hr],Good.empty' (zas M.next M3.next)⟩
  refine⟨H3,aX rfl rfl (aem _ _ _ ?_),M4.wS⟩;simp only [H1] at l1 e1;have hda:decide (bk=-1/\f=-1)=decide (f=-1):=by simp [h]
  rw [hda];simp only [Nat.reduceLT,Int.reduceNeg,xq_,Yn,aC (show(lnk f bk).all AV.aU=true from rfl),l1,e1,l2,e2]
 ·have hd:decide (bk=-1)=false:=decide_eq_false h;rw [hd] at e1;have hda:decide (bk=-1/\f=-1)=false:=by simp [h]
  refine⟨H2,aX rfl rfl (aem _ _ _ ?_),(M1 (by simp only [H1,iC,dL];omega)).wS⟩;simp only [H1] at l1 e1;rw [hda];simp only [Nat.reduceLT,xq_,Yn,aC (show(lnk f bk).all AV.aU=true from rfl),l1,e1]
end
section
variable {b:Nat}{H:ah}{g:bg}{q:Nat}{ca:Cache}
def kD(d:dF)(c:Cache)(p:Pkt):Cache × dF:=
 let d:dF:={ d with state:=p.state,head:=p.ptr,told:=p.ptr,data:=[],step:=6 }
 match c.find d.aB with
 | none=> (c,d)
 | some e=>
  if e.back=-1/\e.fwd=-1 then(c.drop d.aB,{ d with state:=0,head:=-1,data:=if e.fB then e.data else [] })
  else if e.back=-1 then(c,{ d with head:=-1,next:=e.fwd,step:=5 })
  else(c,{ d with head:=e.back,next:=e.fwd,step:=4 })
theorem Va(G:Good b H g)(hb:H.base<=b)(h:g q=some (bJ ca))(C:COk ca)(d:dF)(p:Pkt):
  ∃H',cl 165 [.agg d.av,.ref q 0 0,.agg p.av] H=some (.agg (kD d ca p).2.av,H')/\Good b H' (upd g q (bJ (kD d ca p).1))/\Step b H H':=by
 refine jK rfl rfl (akG _ _ _ _ _) ?_;obtain⟨ls,L,k0,k1,k2,s⟩:=sW G d p;have hbK:(((H.new (.blk 0 62 d.av)).new (.blk 0 99 p.av)).new (.blk 0 62 zD9)).base<=b:=by rw [s.base];exact hb
 have p6:=L.ld k1 (i:=6) (v:=I p.state) rfl;have p5:=L.ld k1 (i:=5) (v:=I p.ptr) rfl;obtain⟨K2,u2,M2,w2⟩:=L.st hbK (r:=H.next) k0 (i:=4) (v:=I p.state) (by simp [dF.av]) dw;have t2:=s.trans w2;obtain⟨K3,u3,M3,w3⟩:=M2.st (by rw [t2.base];exact hb) (r:=H.next) aj (i:=5) (v:=I p.ptr) (by simp [dF.av]) dw;have t3:=t2.trans w3;obtain⟨K4,u4,M4,w4⟩:=M3.st (by rw [t3.base];exact hb) (r:=H.next) aj (i:=8) (v:=I p.ptr) (by simp [dF.av]) dw;have t4:=t3.trans w4;obtain⟨K5,u5,M5,w5⟩:=M4.st (by rw [t4.base];exact hb) (r:=H.next) aj (i:=6) (v:=zN) (by simp [dF.av]) qC;have t5:=t4.trans w5;have c1:∀{β:Type} (k:Option β),ck (bD (.ref (H.next+1) 0 5)) (((H.new (.blk 0 62 d.av)).new (.blk 0 99 p.av)).new (.blk 0 62 zD9)) K2 k=k:=λk=> tK (mY u2 (by omega));have c2:∀{β:Type} (k:Option β),ck (bD (.ref (H.next+1) 0 5)) K2 K3 k=k:=λk=> tK (mY u3 (by omega));obtain⟨K6,u6,M6,w6⟩:=M5.st (by rw [t5.base];exact hb) (r:=H.next) aj (i:=3) (v:=I 6) (by simp [dF.av]) dw;have t6:=t5.trans w6;let d2:dF:={ d with state:=p.state,head:=p.ptr,told:=p.ptr,data:=[],step:=6 }
 have e2:(((((d.av.set 4 (I p.state)).set 5 (I p.ptr)).set 8 (I p.ptr)).set 6 zN).set 3 (I 6))=d2.av:=by simp only [d2,dF.av,Bz];rfl
 rw [e2] at M6;have k0':∀(l:Lcl) (x:List AV),gV l H.next x H.next=some x:=λ_ _=> aj
 have d1:=M6.ld (r:=H.next) aj (i:=1) (v:=I d.aB) rfl;have ef:=lM M6.good (M6.obj h) C.len C.dat d.aB;simp only [iV] at ef;have LE:=M6.newL (ty:=117) (xs:=zE6) (r:=K6.next) rfl rfl;have z2:gV (gV (gV (gV (gV ls H.next (d.av.set 4 (I p.state))) H.next ((d.av.set 4 (I p.state)).set 5 (I p.ptr))) H.next (((d.av.set 4 (I p.state)).set 5 (I p.ptr)).set 8 (I p.ptr))) H.next ((((d.av.set 4 (I p.state)).set 5 (I p.ptr)).set 8 (I p.ptr)).set 6 zN)) H.next d2.av (H.next+1+1)=some zD9:=by
  rw [ay (by omega),ay (by omega),ay (by omega),ay (by omega),ay (by omega)];exact k2
 have n6:H.next+1+1 < K6.next:=M6.good.lt (nU (g:=g) z2)
 obtain⟨KE,x1,x2,ME,x4⟩:=LE.whole (by rw [iC,t6.base];exact hb) (r:=K6.next) aj (n:=6) (vs:=((ca.find d.aB).getD .zero).av) rfl rfl (by decide) (jf _);have tE:=(t6.trans (Step.new (.blk 0 117 zE6) M6.good.1)).trans x4;have hbE:KE.base<=b:=by rw [tE.base];exact hb
 generalize hls:gV (gV (gV (gV (gV (gV (gV ls H.next (d.av.set 4 (I p.state))) H.next ((d.av.set 4 (I p.state)).set 5 (I p.ptr))) H.next (((d.av.set 4 (I p.state)).set 5 (I p.ptr)).set 8 (I p.ptr))) H.next ((((d.av.set 4 (I p.state)).set 5 (I p.ptr)).set 8 (I p.ptr)).set 6 zN)) H.next d2.av) K6.next zE6) K6.next ((ca.find d.aB).getD .zero).av=lz at ME
 have y0:lz H.next=some d2.av:=by rw [<-hls,ay (by omega),ay (by omega),aj]
 have y2:lz (H.next+1+1)=some zD9:=by rw [<-hls,ay (by omega),ay (by omega)];exact z2
 have y3:lz K6.next=some ((ca.find d.aB).getD .zero).av:=by rw [<-hls,aj]
 have fin:∀{Kx:ah} {lx:Lcl} {gx:bg} (dx:dF),Loc b Kx gx lx->Kx.base<=b->lx H.next=some dx.av->lx (H.next+1+1)=some zD9->∃H',lda 9 (.ref H.next 0 0) Kx=some (.agg dx.av,Kx)/\st 9 (.ref (H.next+1+1) 0 0) (.agg dx.av) Kx=some (aO,H')/\lda 9 (.ref (H.next+1+1) 0 0) H'=some (.agg dx.av,H')/\Good b H' gx/\Step b Kx H':=λdx Lx hbx q0 q2=> by
  obtain⟨K',v1,v2,v3,v4⟩:=Lx.whole hbx q2 (n:=9) (vs:=dx.av) rfl rfl (by decide) (aZ _);exact⟨K',Lx.lda q0 (i:=0) (n:=9) (ys:=dx.av) rfl rfl (by decide),v1,v2,v3.out,v4⟩
 cases hfd:ca.find d.aB with
 | none=>
  have hm:kD d ca p=(ca,d2):=by simp only [kD,hfd,d2]
  rw [hm];rw [hfd] at ef x1;simp only [zaB] at ef;obtain⟨H',f1,f2,f3,f4,f5⟩:=fin d2 ME hbE y0 y2;refine⟨H',?_,by rw [eU h];exact f4,tE.trans f5⟩;simp only [Nat.reduceLT,Int.reduceNeg,xq_,GU,aC (aZ d),aC (aK p),p6,p5,u2,u3,u4,u5,c1,c2,u6,d1,ef,x1,zaf,f1,f2,f3]
 | some e=>
  rw [hfd] at ef x1 y3;simp only [zaG,zat] at ef x1 y3;have l2:=ME.lda y3 (i:=0) (n:=2) (ys:=lnk e.fwd e.back) rfl rfl (by decide);obtain⟨KO,o1,o2⟩:=agG KE (zas hbE ME.good.1) e.fwd e.back;have MO:=ME.ext o2;have hbO:KO.base<=b:=by rw [o2.base];exact hbE
  have tO:Step b H KO:=tE.trans ⟨o2.base,o2.next,λr hr=> o2.same r (zau hr ME.good.1)⟩;by_cases h1:e.back=-1/\e.fwd=-1
  ·have dl:=MO.ld y0 (i:=1) (v:=I d.aB) rfl;obtain⟨K7,a1,a2,a3⟩:=EN MO.good hbO (MO.obj h) C.len C.dat d.aB;have M7:=MO.call h a2;have t7:=tO.trans a3;obtain⟨K8,u8,M8,w8⟩:=M7.st (by rw [t7.base];exact hb) y0 (i:=4) (v:=I 0) (by simp [dF.av]) dw;have t8:=t7.trans w8;obtain⟨K9,u9,M9,w9⟩:=M8.st (by rw [t8.base];exact hb) (r:=H.next) aj (i:=5) (v:=I (-1)) (by simp [dF.av]) dw;have t9:=t8.trans w9;have y3':gV (gV lz H.next (d2.av.set 4 (I 0))) H.next ((d2.av.set 4 (I 0)).set 5 (I (-1))) K6.next=some e.av:=by rw [ay (by omega),ay (by omega)];exact y3
   have y2':gV (gV lz H.next (d2.av.set 4 (I 0))) H.next ((d2.av.set 4 (I 0)).set 5 (I (-1))) (H.next+1+1)=some zD9:=by rw [ay (by omega),ay (by omega)];exact y2
   have ed:=M9.ld y3' (i:=4) (v:=B e.fB) rfl;rw [decide_eq_true h1] at o1;cases hdy:e.fB with
   | false=>
    have hm:kD d ca p=(ca.drop d.aB,{ d2 with state:=0,head:=-1,data:=[] }):=by
     simp only [kD,hfd,d2];rw [if_pos h1,hdy];rfl
    rw [hm];rw [hdy] at ed;obtain⟨H',f1,f2,f3,f4,f5⟩:=fin { d2 with state:=0,head:=-1,data:=[] } M9 (by rw [t9.base];exact hb) (by rw [aj];rfl) y2';refine⟨H',?_,f4,t9.trans f5⟩;simp only [Nat.reduceLT,Int.reduceNeg,xq_,GU,qc,aC (aZ d),aC (aK p),p6,p5,u2,u3,u4,u5,c1,c2,u6,d1,ef,x1,zad,l2,o1,dl,a1,u8,u9,ed,f1,f2,f3]
   | true=>
    have hm:kD d ca p=(ca.drop d.aB,{ d2 with state:=0,head:=-1,data:=e.data }):=by
     simp only [kD,hfd,d2];rw [if_pos h1,hdy];rfl
    rw [hm];rw [hdy] at ed;have ex:=M9.ld y3' (i:=5) (v:=dat e.data) rfl;obtain⟨K10,u10,M10,w10⟩:=M9.st (by rw [t9.base];exact hb) (r:=H.next) aj (i:=6) (v:=dat e.data) (by simp [dF.av]) qE;have t10:=t9.trans w10;obtain⟨H',f1,f2,f3,f4,f5⟩:=fin { d2 with state:=0,head:=-1,data:=e.data } M10 (by rw [t10.base];exact hb) (by rw [aj];rfl) (by rw [ay (by omega)];exact y2');refine⟨H',?_,f4,t10.trans f5⟩;simp only [Nat.reduceLT,Int.reduceNeg,xq_,GU,qc,aC (aZ d),aC (aK p),p6,p5,u2,u3,u4,u5,c1,c2,u6,d1,ef,x1,zad,l2,o1,dl,a1,u8,u9,ed,ex,u10,f1,f2,f3]
  ·have l2':=MO.lda y3 (i:=0) (n:=2) (ys:=lnk e.fwd e.back) rfl rfl (by decide);obtain⟨KH,q1,q2'⟩:=Zh KO e.fwd e.back;have q2:=q2' (zas hbO MO.good.1);have MH:=MO.ext q2;have hbH:KH.base<=b:=by rw [q2.base];exact hbO
   have tH:Step b H KH:=tO.trans ⟨q2.base,q2.next,λr hr=> q2.same r (zau hr MO.good.1)⟩;rw [decide_eq_false h1] at o1;have g0:=MH.ld y3 (i:=0) (v:=I e.fwd) rfl;have g1:=MH.ld y3 (i:=1) (v:=I e.back) rfl;by_cases h2:e.back=-1
   ·have hm:kD d ca p=(ca,{ d2 with head:=-1,next:=e.fwd,step:=5 }):=by
     simp only [kD,hfd,d2];rw [if_neg h1,if_pos h2]
    rw [hm];rw [decide_eq_true h2] at q1;obtain⟨K8,u8,M8,w8⟩:=MH.st hbH y0 (i:=5) (v:=I (-1)) (by simp [dF.av]) dw;have t8:=tH.trans w8;obtain⟨K9,u9,M9,w9⟩:=M8.st (by rw [t8.base];exact hb) (r:=H.next) aj (i:=7) (v:=I e.fwd) (by simp [dF.av]) dw;have t9:=t8.trans w9;obtain⟨K10,u10,M10,w10⟩:=M9.st (by rw [t9.base];exact hb) (r:=H.next) aj (i:=3) (v:=I 5) (by simp [dF.av]) dw;have t10:=t9.trans w10;have c3:∀{β:Type} (k:Option β),ck (bD (.ref K6.next 0 0)) KH K8 k=k:=λk=> tK (mY u8 (by omega));obtain⟨H',f1,f2,f3,f4,f5⟩:=fin { d2 with head:=-1,next:=e.fwd,step:=5 } M10 (by rw [t10.base];exact hb) (by rw [aj];rfl) (by rw [ay (by omega),ay (by omega),ay (by omega)];exact y2);refine⟨H',?_,by rw [eU h];exact f4,t10.trans f5⟩;simp only [Nat.reduceLT,Int.reduceNeg,xq_,GU,qc,aC (aZ d),aC (aK p),p6,p5,u2,u3,u4,u5,c1,c2,u6,d1,ef,x1,zad,l2,o1,l2',q1,g0,u8,u9,u10,c3,f1,f2,f3]
   ·have hm:kD d ca p=(ca,{ d2 with head:=e.back,next:=e.fwd,step:=4 }):=by
     simp only [kD,hfd,d2];rw [if_neg h1,if_neg h2]
    rw [hm];rw [decide_eq_false h2] at q1;obtain⟨K8,u8,M8,w8⟩:=MH.st hbH y0 (i:=5) (v:=I e.back) (by simp [dF.av]) dw;have t8:=tH.trans w8;obtain⟨K9,u9,M9,w9⟩:=M8.st (by rw [t8.base];exact hb) (r:=H.next) aj (i:=7) (v:=I e.fwd) (by simp [dF.av]) dw;have t9:=t8.trans w9;obtain⟨K10,u10,M10,w10⟩:=M9.st (by rw [t9.base];exact hb) (r:=H.next) aj (i:=3) (v:=I 4) (by simp [dF.av]) dw;have t10:=t9.trans w10;have c3:∀{β:Type} (k:Option β),ck (bD (.ref K6.next 0 0)) KH K8 k=k:=λk=> tK (mY u8 (by omega));obtain⟨H',f1,f2,f3,f4,f5⟩:=fin { d2 with head:=e.back,next:=e.fwd,step:=4 } M10 (by rw [t10.base];exact hb) (by rw [aj];rfl) (by rw [ay (by omega),ay (by omega),ay (by omega)];exact y2);refine⟨H',?_,by rw [eU h];exact f4,t10.trans f5⟩;simp only [Nat.reduceLT,Int.reduceNeg,xq_,GU,qc,aC (aZ d),aC (aK p),p6,p5,u2,u3,u4,u5,c1,c2,u6,d1,ef,x1,zad,l2,o1,l2',q1,g0,g1,u8,u9,u10,c3,f1,f2,f3]
end
section
variable {b:Nat}{H:ah}{g:bg}{q:Nat}{ca:Cache}
theorem agH(G:Good b H g)(hb:H.base<=b)(h:g q=some (bJ ca))(C:COk ca)(d:dF)(p:Pkt)(nd:Int):
  ∃H',cl 130 [.agg d.av,I nd,.ref q 0 0,.agg p.av] H=some (rG (dX d ca p),H')/\Good b H' (upd g q (bJ (dX d ca p).1))/\Step b H H':=by
 refine jK rfl rfl (aj2 _ _ _ _ _ _) ?_;obtain⟨ls,L,k0,k1,k2,s⟩:=sW G d p;have d0:=L.ld k0 (i:=0) (v:=I d.bf) rfl;have d3:=L.ld k0 (i:=3) (v:=I d.step) rfl;have dA:=L.lda k0 (i:=0) (n:=9) (ys:=d.av) rfl rfl (by decide);have pA:=L.lda k1 (i:=0) (n:=9) (ys:=p.av) rfl rfl (by decide);have hf:=λH=> Qz H d p;have ez:bd 62 []=some (.agg zD9):=by simp only [xq_,WV,jo,dH]
 have hbK:(((H.new (.blk 0 62 d.av)).new (.blk 0 99 p.av)).new (.blk 0 62 zD9)).base<=b:=by rw [s.base];exact hb
 obtain⟨Kz,z1,z2,z3,z4⟩:=L.whole hbK k2 (n:=9) (vs:=zD9) rfl rfl (by decide) rfl;have zu:Good b Kz (upd g q (bJ ca)):=by rw [eU h];exact z3.out
 have outs:∀head,∃K1 K2,cl 166 [.agg d.av,.ref q 0 0,I head] (((H.new (.blk 0 62 d.av)).new (.blk 0 99 p.av)).new (.blk 0 62 zD9))=some (.agg (ig d ca head).2.1.av,K1)/\
   st 9 (.ref (H.next+1+1) 0 0) (.agg (ig d ca head).2.1.av) K1=some (aO,K2)/\lda 9 (.ref (H.next+1+1) 0 0) K2=some (.agg (ig d ca head).2.1.av,K2)/\Good b K2 (upd g q (bJ (ig d ca head).1))/\Step b H K2:=λhead=> by
  obtain⟨K1,a1,a2,a3⟩:=alF L.good hbK (L.obj h) C d head;have M:=L.call h a2;obtain⟨K2,u1,u2,u3,u4⟩:=M.whole (by rw [a3.base];exact hbK) k2 (n:=9) (vs:=(ig d ca head).2.1.av) rfl rfl (by decide) (aZ _);exact⟨K1,K2,a1,u1,u2,u3.out,(s.trans a3).trans u4⟩
 have steps:∀k:Int,∃K1 K2,st 1 (.ref H.next 0 3) (I k) (((H.new (.blk 0 62 d.av)).new (.blk 0 99 p.av)).new (.blk 0 62 zD9))=some (aO,K1)/\lda 9 (.ref H.next 0 0) K1=some (.agg ({ d with step:=k }:dF).av,K1)/\
   st 9 (.ref (H.next+1+1) 0 0) (.agg ({ d with step:=k }:dF).av) K1=some (aO,K2)/\lda 9 (.ref (H.next+1+1) 0 0) K2=some (.agg ({ d with step:=k }:dF).av,K2)/\Good b K2 (upd g q (bJ ca))/\Step b H K2:=λk=> by
  obtain⟨K1,a1,M,a3⟩:=L.st hbK k0 (i:=3) (v:=I k) (by simp [dF.av]) dw;have k2':gV ls H.next (d.av.set 3 (I k)) (H.next+1+1)=some zD9:=by rw [ay (by omega)];exact k2
  have dB:=M.lda aj (i:=0) (n:=9) (ys:=({ d with step:=k }:dF).av) rfl rfl (by decide);obtain⟨K2,u1,u2,u3,u4⟩:=M.whole (by rw [a3.base];exact hbK) k2' (n:=9) (vs:=({ d with step:=k }:dF).av) rfl rfl (by decide) (aZ _);exact⟨K1,K2,a1,dB,u1,u2,by rw [eU h];exact u3.out,(s.trans a3).trans u4⟩
 have d7:=L.ld k0 (i:=7) (v:=I d.next) rfl;have d5:=L.ld k0 (i:=5) (v:=I d.head) rfl;have d8:=L.ld k0 (i:=8) (v:=I d.told) rfl;by_cases h1:d.bf≠3∨d.fits p=false
 ·have hm:dX d ca p=(ca,.zero,false):=by simp only [dX];rw [if_pos h1];rfl
  rw [hm];refine⟨Kz,?_,zu,s.trans z4⟩;by_cases hk:d.bf=3
  ·have hff:d.fits p=false:=h1.resolve_left (λh=> h hk);rw [hk] at d0;simp only [Nat.reduceLT,Int.reduceNeg,xq_,wQ,aC (aZ d),aC (aK p),d0,dA,pA,hf,hff,zad,zaf,ez,z1,z2,rG,kJ]
  ·simp only [Nat.reduceLT,Int.reduceNeg,xq_,wQ,aC (aZ d),aC (aK p),d0,hk,zaf,ez,z1,z2,rG,kJ]
 ·have hk:d.bf=3:=Classical.byContradiction λh=> h1 (.inl h);have hff:d.fits p=true:=by cases hx:d.fits p <;> simp_all
  rw [hk] at d0;by_cases s1:d.step=1
  ·have hm:dX d ca p=((kD d ca p).1,(kD d ca p).2,true):=by
    simp only [dX,kD];rw [if_neg h1,if_pos s1];cases ca.find d.aB with
    | none=> rfl
    | some e=>
     simp only;split
     ·rfl
     ·split <;> rfl
   rw [hm];rw [s1] at d3;obtain⟨K1,a1,a2,a3⟩:=Va L.good hbK (L.obj h) C d p;have M:=L.call h a2;obtain⟨K2,u1,u2,u3,u4⟩:=M.whole (by rw [a3.base];exact hbK) k2 (n:=9) (vs:=(kD d ca p).2.av) rfl rfl (by decide) (aZ _);refine⟨K2,?_,u3.out,(s.trans a3).trans u4⟩;simp only [Nat.reduceLT,Int.reduceEq,Int.reduceNeg,xq_,wQ,aC (aZ d),aC (aK p),d0,dA,pA,hf,hff,zad,d3,a1,u1,u2,rG]
  ·by_cases s4:d.step=4
   ·rw [s4] at d3;by_cases hn:d.next=-1
    ·have hm:dX d ca p=ig d ca d.told:=by simp only [dX];rw [if_neg h1,if_neg s1,if_pos s4,if_pos hn]
     rw [hm];obtain⟨K1,K2,a1,u1,u2,u3,u4⟩:=outs d.told;refine⟨K2,?_,u3,u4⟩;have ht:(ig d ca d.told).2.2=true:=rfl;rw [hn] at d7;simp only [Nat.reduceLT,Int.reduceEq,Int.reduceNeg,xq_,wQ,aC (aZ d),aC (aK p),d0,dA,pA,hf,hff,zad,d3,d7,d8,a1,u1,u2,rG,ht]
    ·have hm:dX d ca p=(ca,{ d with step:=5 },true):=by simp only [dX];rw [if_neg h1,if_neg s1,if_pos s4,if_neg hn]
     rw [hm];obtain⟨K1,K2,a1,dB,u1,u2,u3,u4⟩:=steps 5;refine⟨K2,?_,u3,u4⟩;simp only [Nat.reduceLT,Int.reduceEq,Int.reduceNeg,xq_,wQ,aC (aZ d),aC (aK p),d0,dA,pA,hf,hff,zad,d3,d7,hn,a1,dB,u1,u2,rG]
   ·by_cases s5:d.step=5
    ·rw [s5] at d3;by_cases hn:d.head=-1
     ·have hm:dX d ca p=ig d ca d.next:=by simp only [dX];rw [if_neg h1,if_neg s1,if_neg s4,if_pos s5,if_pos hn]
      rw [hm];obtain⟨K1,K2,a1,u1,u2,u3,u4⟩:=outs d.next
      refine⟨K2,?_,u3,u4⟩;have ht:(ig d ca d.next).2.2=true:=rfl;rw [hn] at d5;simp only [Nat.reduceLT,Int.reduceEq,Int.reduceNeg,xq_,wQ,aC (aZ d),aC (aK p),d0,dA,pA,hf,hff,zad,d3,d5,d7,a1,u1,u2,rG,ht]
     ·have hm:dX d ca p=ig d ca d.told:=by simp only [dX];rw [if_neg h1,if_neg s1,if_neg s4,if_pos s5,if_neg hn]
      rw [hm];obtain⟨K1,K2,a1,u1,u2,u3,u4⟩:=outs d.told;refine⟨K2,?_,u3,u4⟩;have ht:(ig d ca d.told).2.2=true:=rfl;simp only [Nat.reduceLT,Int.reduceEq,Int.reduceNeg,xq_,wQ,aC (aZ d),aC (aK p),d0,dA,pA,hf,hff,zad,d3,d5,hn,d8,a1,u1,u2,rG,ht]
    ·by_cases s6:d.step=6
     ·have hm:dX d ca p=(ca,{ d with step:=0 },true):=by simp only [dX];rw [if_neg h1,if_neg s1,if_neg s4,if_neg s5,if_pos s6]
      rw [hm];obtain⟨K1,K2,a1,dB,u1,u2,u3,u4⟩:=steps 0;refine⟨K2,?_,u3,u4⟩;rw [s6] at d3;simp only [Nat.reduceLT,Int.reduceEq,Int.reduceNeg,xq_,wQ,aC (aZ d),aC (aK p),d0,dA,pA,hf,hff,zad,d3,a1,dB,u1,u2,rG]
     ·have hm:dX d ca p=(ca,.zero,false):=by simp only [dX];rw [if_neg h1,if_neg s1,if_neg s4,if_neg s5,if_neg s6];rfl
      rw [hm];refine⟨Kz,?_,zu,s.trans z4⟩;simp only [Nat.reduceLT,Int.reduceNeg,xq_,wQ,aC (aZ d),aC (aK p),d0,dA,pA,hf,hff,zad,d3,s1,s4,s5,s6,ez,z1,z2,rG,kJ]
end
section
variable {b:Nat}{H:ah}{g:bg}{q:Nat}
theorem NS(G:Good b H g)(hb:H.base<=b){l:List Evn}(h:g q=some (kH l))(hl:l.length < 1000000)(e:Evn):
  ∃x x' H1 H2,ld (.ref q 0 0) H=some (x,H)/\app 137 4 32 x (.sl H.next 0 0 4 1 1 true) (H.new (.blk 0 137 e.av))=some (x',H1)/\st 1 (.ref q 0 0) x' H1=some (aO,H2)/\Good b H2 (upd g q (kH (l++[e])))/\Step b H H2:=by
 obtain⟨x,hx,c⟩:=G.seq h (i:=0) rfl;obtain⟨x',H1,H2,a1,a2,a3,a4⟩:=(G.new (.blk 0 137 e.av)).append (e:=137) (by_:=32) (n:=l.length) (by rw [iC];exact hb) h (i:=0) rfl (by decide) (dh mg l) (c.new _) (jI (ex:=true) (n:=1) (m:=4) (l:=e.av) rfl) (xB e) (by unfold most;omega) (by unfold most;omega);refine⟨x,x',H1,H2,hx,a1,a2,?_,(Step.new _ G.1).trans a4⟩;have:kH (l++[e])=(kH l).set 0 (.seq 4 (l.flatMap Evn.av++e.av)):=by simp [kH]
 rw [this];exact a3
theorem Vb(G:Good b H g)(hb:H.base<=b){l:List Evn}(h:g q=some (kH l))(hl:l.length < 1000000)(bn idx:Int):
  ∃H',cl 97 [.ref q 0 0,I bn,I idx] H=some (.tup [],H')/\Good b H' (upd g q (kH (l++[⟨bn,idx,false,0⟩])))/\Step b H H':=by
 obtain⟨x,x',H1,H2,a0,a1,a2,a3,a4⟩:=NS G hb h hl ⟨bn,idx,false,0⟩;refine⟨H2,aX rfl rfl (aoa _ _ _ _ _ ?_),a3,a4⟩;have ed:bd 137 [(0,I bn),(1,I idx)]=some (.agg (Evn.mk bn idx false 0).av):=by
  simp only [xq_,acO,jo,fJ,WX,Evn.av];rfl
 simp only [xq_,ajA,a0,ed,aaN,zbm,Nat.reduceLeDiff,gZ (m:=4) (z:=[zI,zI,zB,zI]) (v:=.agg (Evn.mk bn idx false 0).av) rfl rfl (xB _),eH,a1,a2]
theorem abS(G:Good b H g)(hb:H.base<=b){l:List Evn}(h:g q=some (kH l))(hl:l.length < 1000000)(bn idx v:Int):
  ∃H',cl 132 [.ref q 0 0,I bn,I idx,I v] H=some (.tup [],H')/\Good b H' (upd g q (kH (l++[⟨bn,idx,true,v⟩])))/\Step b H H':=by
 obtain⟨x,x',H1,H2,a0,a1,a2,a3,a4⟩:=NS G hb h hl ⟨bn,idx,true,v⟩;refine⟨H2,aX rfl rfl (aj3 _ _ _ _ _ _ ?_),a3,a4⟩;have ed:bd 137 [(0,I bn),(1,I idx),(2,B true),(3,I v)]=some (.agg (Evn.mk bn idx true v).av):=by
  simp only [xq_,acO,jo,fJ,WX,Evn.av];rfl
 simp only [xq_,adT,a0,ed,aaN,zbm,Nat.reduceLeDiff,gZ (m:=4) (z:=[zI,zI,zB,zI]) (v:=.agg (Evn.mk bn idx true v).av) rfl rfl (xB _),eH,a1,a2]
end
section
variable {b:Nat}{H:ah}{g:bg}{q:Nat}
theorem Zi(G:Good b H g)(hb:H.base<=b){p:Proc}(h:g q=some (oP p))(h1:p.ops.length < 1000)(h2:p.dP.length < 1000)(hv:p.dP.length<=p.ops.length):
  ∃v H',cl 96 [.ref q 0 0] H=some (v,H')/\Good b H' (upd g q (oP p.yu))/\Step b H H':=by
 have l2:=G.load h (i:=2) (x:=B p.gK) rfl;have el:=JE G h h1 h2;cases hbg:p.gK with
 | true=>
  have hm:p.yu=p:=by simp [Proc.yu,hbg]
  rw [hm];rw [hbg] at l2;refine⟨I 6,H,aX rfl rfl (afV _ _ _ ?_),by rw [eU h];exact G,Step.refl _ _⟩;simp only [xq_,abk,l2]
 | false=>
  rw [hbg] at l2;by_cases hl:p.left=0
  ·have hc:p.cur=none:=by
    unfold Proc.cur;unfold Proc.left at hl;exact zaK (by omega)
   have hm:p.yu=p:=by simp [Proc.yu,hc]
   rw [hm];rw [hl] at el;refine⟨I 6,H,aX rfl rfl (afV _ _ _ ?_),by rw [eU h];exact G,Step.refl _ _⟩;simp only [xq_,abk,l2,el]
  ·have hc:p.cur≠none:=by
    unfold Proc.cur;unfold Proc.left at hl;intro hn;have:=List.getElem?_eq_none_iff.1 hn;omega
   have hm:p.yu={ p with gK:=true }:=by
    unfold Proc.yu;rw [if_neg (by rw [hbg];exact λh=> h.elim (λh=> (by cases h)) hc)]
   obtain⟨H',s1,s2,s3,s4⟩:=G.store hb h (i:=2) (v:=B true) (by simp [oP]) BR;rw [hm];refine⟨I 0,H',aX rfl rfl (afV _ _ _ ?_),s2,s3⟩;simp only [xq_,abk,l2,el,hl,s1]
theorem agI(G:Good b H g)(hb:H.base<=b){p:Proc}(h:g q=some (oP p))(h2:p.dP.length < 1000)(v:Int):
  ∃r H',cl 131 [.ref q 0 0,I v] H=some (r,H')/\Good b H' (upd g q (oP (p.VH v)))/\Step b H H':=by
 have l2:=G.load h (i:=2) (x:=B p.gK) rfl;cases hbg:p.gK with
 | false=>
  have hm:p.VH v=p:=by simp [Proc.VH,hbg]
  rw [hm];rw [hbg] at l2;refine⟨I 6,H,aX rfl rfl (adS _ _ _ _ ?_),by rw [eU h];exact G,Step.refl _ _⟩;simp only [xq_,X9,l2,zaf]
 | true=>
  have hm:p.VH v=⟨p.ops,p.dP++[v],false⟩:=by simp [Proc.VH,hbg]
  rw [hm];rw [hbg] at l2;obtain⟨x,hx,c⟩:=G.seq h (i:=1) rfl;obtain⟨x',H1,H2,a1,a2,a3,a4⟩:=(G.new (.blk 0 3 [I v])).append (e:=3) (by_:=8) (n:=p.dP.length) (by rw [iC];exact hb) h (i:=1) rfl (by decide) (by simp) (c.new _) (jI (ex:=true) (n:=1) (m:=1) (l:=[I v]) rfl) rfl (by unfold most;omega) (by unfold most;omega);have h3:upd g q ((oP p).set 1 (.seq 1 (p.dP.map I++[I v]))) q=some ((oP p).set 1 (.seq 1 (p.dP.map I++[I v]))):=aN;obtain⟨H3,s1,s2,s3,s4⟩:=a3.store (by rw [a4.base,iC];exact hb) h3 (i:=2) (v:=B false) (by simp [oP]) BR;rw [qB] at s2;have eb:∀H,bs 22 1 [(0,I v)] H=some (.sl H.next 0 0 1 1 1 true,H.new (.blk 0 3 [I v])):=λH=> (LD (by decide)).trans (gZ rfl rfl rfl);refine⟨I 0,H3,aX rfl rfl (adS _ _ _ _ ?_),?_,((Step.new _ G.1).trans a4).trans s3⟩
  ·simp only [xq_,X9,l2,zad,hx,eb,a1,a2,s1]
  ·have:oP ⟨p.ops,p.dP++[v],false⟩=((oP p).set 1 (.seq 1 (p.dP.map I++[I v]))).set 2 (.av (B false)):=by simp [oP]
   rw [this];exact s2
end
section
variable {b:Nat}{H:ah}{g:bg}{q:Nat}
theorem agJ(G:Good b H g)(hb:H.base<=b){p:Proc}(h:g q=some (oP p))(h1:p.ops.length < 1000)(h2:p.dP.length < 1000)(hv:p.dP.length<=p.ops.length):
  ∃H',cl 85 [.ref q 0 0] H=some (.tup [.agg p.op.av,I p.idx,B p.cur.isSome],H')/\Good b H' g/\Step b H H':=by
 refine jK rfl rfl (anX _ _ _) ?_;have L:=(Loc.of G).newL (ty:=26) (xs:=[zI,zI,zI]) (r:=H.next) rfl rfl;have s1:Step b H _:=Step.new (.blk 0 26 [zI,zI,zI]) G.1;have el:=JE L.good (L.obj h) h1 h2;have hbK:(H.new (.blk 0 26 [zI,zI,zI])).base<=b:=by rw [iC];exact hb
 have hz:Opn.zero.av=[zI,zI,zI]:=rfl;by_cases hl:p.left=0
 ·have hc:p.cur=none:=by
   unfold Proc.cur;unfold Proc.left at hl;exact zaK (by omega)
  obtain⟨K,t1,t2,t3,t4⟩:=L.whole hbK aj (n:=3) (vs:=[zI,zI,zI]) rfl rfl (by decide) rfl;have ez:bd 26 []=some (.agg [zI,zI,zI]):=by simp only [xq_,aaP,jo,dH]
  refine⟨K,?_,t3.out,s1.trans t4⟩;rw [hl] at el;have hi:p.idx=0:=by simp [Proc.idx,hc]
  have ho:p.op.av=[zI,zI,zI]:=by simp only [Proc.op,hc,zaT];exact hz
  simp only [xq_,afQ,el,ez,t1,t2,hi,ho,hc,zaB]
 ·have hlt:p.dP.length < p.ops.length:=by unfold Proc.left at hl;omega
  obtain⟨o,ho⟩:∃o,p.ops[p.dP.length]?=some o:=⟨_,zab hlt⟩
  have hc:p.cur=some o:=ho;have l0:=L.good.load (L.obj h) (i:=0) (x:=vsl 3 Opn.av p.ops) rfl;obtain⟨x,hx,c⟩:=L.good.seq (L.obj h) (i:=1) rfl;have e2:=(c.is (n:=p.dP.length) (by decide) (by simp)).lnS;have hs:=Gt fH (H.new (.blk 0 26 [zI,zI,zI])) p.ops;have e3:=hs.ix (k:=.i64) (i:=(p.dP.length:Int)) (by omega) (by omega);rw [zao] at e3;have e4:=jX fH hs ho;obtain⟨K,t1,t2,t3,t4⟩:=L.whole hbK aj (n:=3) (vs:=o.av) rfl (fH _) (by decide) (nK _);have c1:∀{β:Type} (k:Option β),ck (bD (.ref q 0 1)) (H.new (.blk 0 26 [zI,zI,zI])) K k=k:=λk=> tK (mY t1 (by have:=G.lt h;omega));have c2:∀{β:Type} (k:Option β),ck (bD x) (H.new (.blk 0 26 [zI,zI,zI])) K k=k:=λk=> abB λr hr=> by
   refine mY t1 ?_;obtain⟨c0,hx0,cx⟩:=G.seq h (i:=1) rfl;have hxx:x=c0:=by
    have:=(cx.new (.blk 0 26 [zI,zI,zI])).load;rw [this] at hx;simp only [zaa,zae] at hx;exact hx.1.symm
   subst hxx;rcases cx.length (n:=p.dP.length) (by decide) (by simp) with⟨rfl,_⟩ | ⟨r',gg,off,cap,ex,ty,all,rfl,q1,q2,q3,_⟩
   ·cases hr
   ·simp only [bD,zaa] at hr;omega
  refine⟨K,?_,t3.out,s1.trans t4⟩;have hi:p.idx=p.dP.length:=by simp [Proc.idx,hc]
  have hop:p.op=o:=by simp [Proc.op,hc]
  simp only [xq_,afQ,el,hl,l0,hx,e2,e3,e4,t1,t2,c1,c2,hi,hop,hc,zaG]
end
theorem alG {β:Type}{s s0:Nat}{H H':ah}{k:Option β}(h:∀r,s<=r->r < s0->H'.get r=H.get r):ckR s s0 H H' k=k:=if_pos h
theorem Ib(r gg o:Nat)(v:AV){H H':ah}(h:st 1 (.ref r gg (o+1)) v H=some (aO,H')):cl 175 [.ref r gg o,v] H=some (.tup [],H'):=by
 refine aX rfl rfl (akR _ _ _ _ ?_);simp only [xq_,aei,h]
theorem Zj(r gg o:Nat)(v:AV){H H':ah}(h:st 1 (.ref r gg o) v H=some (aO,H')):cl 176 [.ref r gg o,v] H=some (.tup [],H'):=by
 refine aX rfl rfl (akS _ _ _ _ ?_);simp only [xq_,aej,h]
section
variable {b:Nat}{H:ah}{g:bg}{q:Nat}{ca:Cache}
theorem JM {K:ah}{ls:Lcl}(L:Loc b K g ls)(hb:K.base<=b)(h:g q=some (bJ ca))(C:COk ca)(e:Ent)(he:e.data.length < 1000000000)(out:Pkt){r4 r6 r8:Nat}(k4:ls r4=some zP9)(k6:ls r6=some e.av)(k8:ls r8=some out.av):
  ∃H',vO cl (.ref q 0 0) (.ref r4 0 0) (.ref r6 0 0) (.ref r8 0 0) K=some (.tup [.agg out.av,I (ca.put e).2],H')/\Good b H' (upd g q (bJ (ca.put e).1))/\Step b K H':=by
 have l8:=L.lda k8 (i:=0) (n:=9) (ys:=out.av) rfl rfl (by decide);have l6:=L.lda k6 (i:=0) (n:=6) (ys:=e.av) rfl rfl (by decide);obtain⟨K1,a1,a2,a3⟩:=y8 L.good hb (L.obj h) C e he;have M:=L.call h a2;have ck1:∀{β:Type} (k:Option β),ck (bD (.ref r8 0 0)) K K1 k=k:=λk=> tK (TF L.good M.good (Tz _ _ _ _ _ a1) (nU k8) (nU k8));obtain⟨K2,u1,u2,u3,u4⟩:=M.whole (by rw [a3.base];exact hb) k4 (n:=9) (vs:=out.av) rfl rfl (by decide) (aK _);refine⟨K2,?_,u3.out,a3.trans u4⟩;simp only [xq_,vO,l8,l6,a1,u1,u2,ck1]
end
section
variable {b:Nat}{H:ah}{g:bg}{q:Nat}{ca:Cache}
def VL(r:Cache × Pkt × Int):AV:=.tup [.agg r.2.1.av,I r.2.2]
theorem NU(G:Good b H g)(hb:H.base<=b)(h:g q=some (bJ ca))(C:COk ca)(p:Pkt)(hx:(!p.ok || decide (p.bf < 3) || decide (6 < p.bf))=true∨ca.find p.aB=none):
  ∃H',cl 144 [.ref q 0 0,.agg p.av] H=some (VL (fP ca p),H')/\Good b H' (upd g q (bJ (fP ca p).1))/\Step b H H':=by
 refine jK rfl rfl (adZ _ _ _ _) ?_;have L1:=(Loc.of G).newL (ty:=99) (xs:=p.av) (r:=H.next) (aK p) rfl;have L2:=L1.newL (ty:=99) (xs:=zP9) (r:=H.next+1) rfl (by rw [dL]);have s2:Step b H _:=(Step.new (.blk 0 99 p.av) G.1).trans (Step.new (.blk 0 99 zP9) L1.good.1);have k0:gV (gV noL H.next p.av) (H.next+1) zP9 H.next=some p.av:=by rw [ay (by omega),aj]
 have p0:=L2.ld k0 (i:=0) (v:=I p.bf) rfl;have p4:=L2.ld k0 (i:=4) (v:=I p.aB) rfl;have pA:=L2.lda k0 (i:=0) (n:=9) (ys:=p.av) rfl rfl (by decide);have ck:=λH=> yV H p;have ez:bd 99 []=some (.agg zP9):=by simp only [xq_,xw,jo,dH]
 have hbK:((H.new (.blk 0 99 p.av)).new (.blk 0 99 zP9)).base<=b:=by rw [s2.base];exact hb
 by_cases h1:(!p.ok || decide (p.bf < 3) || decide (6 < p.bf))=true
 ·have hm:fP ca p=(ca,.zero,1):=by simp only [fP];rw [if_pos h1]
  rw [hm];obtain⟨K,z1,z2,z3,z4⟩:=L2.whole hbK aj (n:=9) (vs:=zP9) rfl rfl (by decide) rfl;refine⟨K,?_,by rw [eU h];exact z3.out,s2.trans z4⟩;cases hok:p.ok with
  | false=>
   rw [hok] at ck;simp only [Nat.reduceLT,Int.reduceEq,xq_,yM,aC (aK p),pA,ck,zaf,ez,z1,z2,VL,eP]
  | true=>
   rw [hok] at ck h1;by_cases h3:p.bf < 3
   ·simp only [Nat.reduceLT,xq_,yM,aC (aK p),pA,ck,zad,p0,h3,ez,z1,z2,VL,eP]
   ·have h6:6 < p.bf:=by simpa [h3] using h1
    simp only [Nat.reduceLT,xq_,yM,aC (aK p),pA,ck,zad,p0,h3,h6,ez,z1,z2,VL,eP]
 ·have hfn:ca.find p.aB=none:=hx.resolve_left h1;have hm:fP ca p=(ca,.zero,3):=by simp only [fP,hfn];rw [if_neg h1];rfl
  rw [hm];have hok:p.ok=true/\¬p.bf < 3/\¬6 < p.bf:=by
   cases ho:p.ok <;> simp_all
  have ef:=lM L2.good (L2.obj h) C.len C.dat p.aB;rw [hfn] at ef;simp only [iV,zaT,zaB,qh] at ef;have LE:=L2.newL (ty:=117) (xs:=zE6) (r:=H.next+1+1) rfl (by rw [dL,dL]);have sE:Step b H _:=s2.trans (Step.new (.blk 0 117 zE6) L2.good.1);obtain⟨KE,x1,x2,ME,x4⟩:=LE.whole (by rw [sE.base];exact hb) aj (n:=6) (vs:=zE6) rfl rfl (by decide) rfl;have tE:=sE.trans x4;obtain⟨K,z1,z2,z3,z4⟩:=ME.whole (by rw [tE.base];exact hb) (r:=H.next+1) (xs:=zP9) (by rw [ay (by omega),ay (by omega),aj]) (n:=9) (vs:=zP9) rfl rfl (by decide) rfl;refine⟨K,?_,by rw [eU h];exact z3.out,tE.trans z4⟩;rw [hok.1] at ck;simp only [Nat.reduceLT,xq_,yM,aC (aK p),pA,ck,zad,zaf,p0,hok.2.1,hok.2.2,p4,ef,x1,ez,z1,z2,VL,eP]
end
section
variable {b:Nat}{H:ah}{g:bg}{q:Nat}{ca:Cache}
theorem abT(G:Good b H g)(hb:H.base<=b)(h:g q=some (bJ ca))(C:COk ca)(p:Pkt)(hx:¬(!p.ok || decide (p.bf < 3) || decide (6 < p.bf))=true){e:Ent}(hfd:ca.find p.aB=some e):
  ∃H',cl 144 [.ref q 0 0,.agg p.av] H=some (VL (fP ca p),H')/\Good b H' (upd g q (bJ (fP ca p).1))/\Step b H H':=by
 have hok:p.ok=true/\¬p.bf < 3/\¬6 < p.bf:=by
  cases ho:p.ok <;> simp_all
 have he:e.data.length < 1000000000:=C.dat e (zbh hfd);refine jK rfl rfl (adZ _ _ _ _) ?_;have L1:=(Loc.of G).newL (ty:=99) (xs:=p.av) (r:=H.next) (aK p) rfl;have L2:=L1.newL (ty:=99) (xs:=zP9) (r:=H.next+1) rfl (by rw [dL]);have s2:Step b H _:=(Step.new (.blk 0 99 p.av) G.1).trans (Step.new (.blk 0 99 zP9) L1.good.1);have k0:gV (gV noL H.next p.av) (H.next+1) zP9 H.next=some p.av:=by rw [ay (by omega),aj]
 have p0:=L2.ld k0 (i:=0) (v:=I p.bf) rfl;have p4:=L2.ld k0 (i:=4) (v:=I p.aB) rfl;have pA:=L2.lda k0 (i:=0) (n:=9) (ys:=p.av) rfl rfl (by decide);have ck:=λH=> yV H p;have ef:=lM L2.good (L2.obj h) C.len C.dat p.aB;rw [hfd] at ef;simp only [iV,zat,zaG] at ef;have LE:=L2.newL (ty:=117) (xs:=zE6) (r:=H.next+1+1) rfl (by rw [dL,dL]);have sE:Step b H _:=s2.trans (Step.new (.blk 0 117 zE6) L2.good.1);obtain⟨KE,x1,x2,ME,x4⟩:=LE.whole (by rw [sE.base];exact hb) aj (n:=6) (vs:=e.av) rfl rfl (by decide) (jf e);have tE:=sE.trans x4;have nE:H.next+1+1 < KE.next:=ME.good.lt (nU (g:=g) aj)
 have LO:=ME.newL (ty:=99) (xs:=zP9) (r:=KE.next) rfl rfl;have tO:=tE.trans (Step.new (.blk 0 99 zP9) ME.good.1);let out:Pkt:=⟨J5 p.bf,p.dst,p.src,p.id,p.aB,0,0,false,[]⟩
 have y0:∀{xs:List AV} {l:Lcl},True:=λ{_ _}=> trivial;obtain⟨K0,o1,o2,M0,o4⟩:=LO.whole (by rw [iC,tE.base];exact hb) (r:=KE.next) aj (n:=9) (vs:=out.av) rfl (bH _) (by decide) (aK _);have t0:=tO.trans o4;have hbK:K0.base<=b:=by rw [t0.base];exact hb
 have ebd:bd 99 [(0,I (J5 p.bf)),(1,I p.dst),(2,I p.src),(3,I p.id),(4,I p.aB)]=some (.agg out.av):=by
  simp only [xq_,xw,jo,fJ,PG,out,Pkt.av,Bz];rfl
 have ea:=λH=> NG H p.bf;have m0:∀{l:Lcl},gV (gV (gV (gV (gV (gV noL H.next p.av) (H.next+1) zP9) (H.next+1+1) zE6) (H.next+1+1) e.av) KE.next zP9) KE.next out.av H.next=some p.av:=λ{_}=> by
  rw [ay (by omega),ay (by omega),ay (by omega),ay (by omega),ay (by omega),aj]
 have kE0:gV (gV (gV (gV (gV noL H.next p.av) (H.next+1) zP9) (H.next+1+1) zE6) (H.next+1+1) e.av) KE.next zP9 H.next=some p.av:=by
  rw [ay (by omega),ay (by omega),ay (by omega),ay (by omega),aj]
 have r0:=LO.ld kE0 (i:=0) (v:=I p.bf) rfl;have r1:=LO.ld kE0 (i:=1) (v:=I p.src) rfl;have r2:=LO.ld kE0 (i:=2) (v:=I p.dst) rfl;have r3:=LO.ld kE0 (i:=3) (v:=I p.id) rfl;have r4:=LO.ld kE0 (i:=4) (v:=I p.aB) rfl;have q0:=M0.ld (m0 (l:=noL)) (i:=0) (v:=I p.bf) rfl;have q5:=M0.ld (m0 (l:=noL)) (i:=5) (v:=I p.ptr) rfl;rw [hok.1] at ck;by_cases h4:p.bf=4
 ·have hm:fP ca p=((ca.put { e with fwd:=p.ptr }).1,out,(ca.put { e with fwd:=p.ptr }).2):=by
   simp only [fP,hfd];rw [if_neg hx,if_neg (by omega),if_pos h4]
  rw [hm];obtain⟨K1,u1,M1,w1⟩:=M0.st hbK (r:=H.next+1+1) (xs:=e.av) (by rw [ay (by omega),ay (by omega),aj]) (i:=0) (v:=I p.ptr) (by simp [Ent.av]) dw;have t1:=t0.trans w1;obtain⟨H',f1,f2,f3⟩:=JM M1 (by rw [t1.base];exact hb) h C { e with fwd:=p.ptr } he out (r4:=H.next+1) (r6:=H.next+1+1) (r8:=KE.next) (by rw [ay (by omega),ay (by omega),ay (by omega),ay (by omega),ay (by omega),aj]) (by rw [aj];rfl) (by rw [ay (by omega),aj]);refine⟨H',?_,f2,t1.trans f3⟩;have sf:=Zj _ _ _ _ u1;rw [h4] at q0;simp only [Nat.reduceLT,Int.reduceEq,xq_,yM,aC (aK p),pA,ck,zad,p0,hok.2.1,hok.2.2,p4,ef,x1,r0,ea,r1,r2,r3,r4,ebd,o1,q0,q5,sf,f1,VL]
 ·by_cases h5:p.bf=5
  ·have hm:fP ca p=((ca.put { e with back:=p.ptr }).1,out,(ca.put { e with back:=p.ptr }).2):=by
    simp only [fP,hfd];rw [if_neg hx,if_neg (by omega),if_neg h4,if_pos h5]
   rw [hm];obtain⟨K1,u1,M1,w1⟩:=M0.st hbK (r:=H.next+1+1) (xs:=e.av) (by rw [ay (by omega),ay (by omega),aj]) (i:=1) (v:=I p.ptr) (by simp [Ent.av]) dw;have t1:=t0.trans w1;obtain⟨H',f1,f2,f3⟩:=JM M1 (by rw [t1.base];exact hb) h C { e with back:=p.ptr } he out (r4:=H.next+1) (r6:=H.next+1+1) (r8:=KE.next) (by rw [ay (by omega),ay (by omega),ay (by omega),ay (by omega),ay (by omega),aj]) (by rw [aj];rfl) (by rw [ay (by omega),aj]);refine⟨H',?_,f2,t1.trans f3⟩;have sf:=Ib _ _ 0 _ u1;rw [h5] at q0;simp only [Nat.reduceLT,Int.reduceEq,xq_,yM,aC (aK p),pA,ck,zad,p0,hok.2.1,hok.2.2,p4,ef,x1,r0,ea,r1,r2,r3,r4,ebd,o1,q0,q5,sf,f1,VL]
  ·have zE:gV (gV (gV (gV (gV (gV noL H.next p.av) (H.next+1) zP9) (H.next+1+1) zE6) (H.next+1+1) e.av) KE.next zP9) KE.next out.av (H.next+1+1)=some e.av:=by rw [ay (by omega),ay (by omega),aj]
   have g5:=M0.ld zE (i:=5) (v:=dat e.data) rfl;have g4:=M0.ld zE (i:=4) (v:=B e.fB) rfl;have g0:=M0.ld zE (i:=0) (v:=I e.fwd) rfl;obtain⟨K1,u1,M1,w1⟩:=M0.st hbK (r:=KE.next) aj (i:=8) (v:=dat e.data) (by simp [Pkt.av]) qE;have t1:=t0.trans w1;obtain⟨K2,u2,M2,w2⟩:=M1.st (by rw [t1.base];exact hb) (r:=KE.next) aj (i:=7) (v:=B e.fB) (by simp [Pkt.av]) BR;have t2:=t1.trans w2;have c1:∀{β:Type} (o:Nat) (k:Option β),Proofs.YtmdbbfoefdjgoaaGreat.ck (bD (.ref (H.next+1+1) 0 o)) K0 K1 k=k:=λo k=> tK (mY u1 (by omega));have c2:∀{β:Type} (o:Nat) (k:Option β),Proofs.YtmdbbfoefdjgoaaGreat.ck (bD (.ref (H.next+1+1) 0 o)) K1 K2 k=k:=λo k=> tK (mY u2 (by omega));by_cases h3:p.bf=3
   ·have hm:fP ca p=((ca.put { e with fB:=false,back:=p.ptr }).1,{ out with data:=e.data,flag:=e.fB },(ca.put { e with fB:=false,back:=p.ptr }).2):=by
     simp only [fP,hfd];rw [if_neg hx,if_pos h3]
    rw [hm];obtain⟨K3,u3,M3,w3⟩:=M2.st (by rw [t2.base];exact hb) (r:=H.next+1+1) (xs:=e.av) (by rw [ay (by omega),ay (by omega)];exact zE) (i:=4) (v:=B false) (by simp [Ent.av]) BR;have t3:=t2.trans w3;have q5':=M3.ld (r:=H.next) (xs:=p.av) (i:=5) (v:=I p.ptr) (by rw [ay (by omega),ay (by omega),ay (by omega)];exact m0 (l:=noL)) rfl;obtain⟨K4,u4,M4,w4⟩:=M3.st (by rw [t3.base];exact hb) (r:=H.next+1+1) aj (i:=1) (v:=I p.ptr) (by simp [Ent.av]) dw;have t4:=t3.trans w4;obtain⟨H',f1,f2,f3⟩:=JM M4 (by rw [t4.base];exact hb) h C { e with fB:=false,back:=p.ptr } he { out with data:=e.data,flag:=e.fB } (r4:=H.next+1) (r6:=H.next+1+1) (r8:=KE.next) (by rw [ay (by omega),ay (by omega),ay (by omega),ay (by omega),ay (by omega),ay (by omega),ay (by omega),ay (by omega),aj]) (by rw [aj];rfl) (by rw [ay (by omega),ay (by omega),aj];rfl);refine⟨H',?_,f2,t4.trans f3⟩;have sf:=Ib _ _ 0 _ u4;rw [h3] at q0;simp only [Nat.reduceLT,Int.reduceEq,xq_,yM,aC (aK p),pA,ck,zad,p0,hok.2.1,hok.2.2,p4,ef,x1,r0,ea,r1,r2,r3,r4,ebd,o1,q0,g5,g4,u1,u2,c1,u3,q5',sf,f1,VL]
   ·have h6:p.bf=6:=by omega
    have hm:fP ca p=(ca.drop p.aB,{ out with data:=e.data,flag:=e.fB,ptr:=e.fwd },0):=by
     simp only [fP,hfd];rw [if_neg hx,if_neg h3,if_neg h4,if_neg h5]
    rw [hm];obtain⟨K3,u3,M3,w3⟩:=M2.st (by rw [t2.base];exact hb) (r:=KE.next) aj (i:=5) (v:=I e.fwd) (by simp [Pkt.av]) dw;have t3:=t2.trans w3;have q4:=M3.ld (r:=H.next) (xs:=p.av) (i:=4) (v:=I p.aB) (by rw [ay (by omega),ay (by omega),ay (by omega)];exact m0 (l:=noL)) rfl;obtain⟨K4,a1,a2,a3⟩:=EN M3.good (by rw [t3.base];exact hb) (M3.obj h) C.len C.dat p.aB;have M4:=M3.call h a2;have t4:=t3.trans a3;have lo:=M4.lda (r:=KE.next) aj (i:=0) (n:=9) (ys:=({ out with data:=e.data,flag:=e.fB,ptr:=e.fwd }:Pkt).av) rfl rfl (by decide);obtain⟨K5,v1,v2,v3,v4⟩:=M4.whole (by rw [t4.base];exact hb) (r:=H.next+1) (xs:=zP9) (by rw [ay (by omega),ay (by omega),ay (by omega),ay (by omega),ay (by omega),ay (by omega),ay (by omega),aj]) (n:=9) (vs:=({ out with data:=e.data,flag:=e.fB,ptr:=e.fwd }:Pkt).av) rfl (bH _) (by decide) (aK _);refine⟨K5,?_,v3.out,t4.trans v4⟩;rw [h6] at q0;simp only [Nat.reduceLT,Int.reduceEq,xq_,yM,aC (aK p),pA,ck,zad,p0,hok.2.1,hok.2.2,p4,ef,x1,r0,ea,r1,r2,r3,r4,ebd,o1,q0,g5,g4,g0,u1,u2,u3,c1,c2,q4,a1,lo,v1,v2,VL]
end
section
variable {b:Nat}{H:ah}{g:bg}{q d tt:Nat}{c:Cfg}{me:Int}{h:Home}
theorem Vd(G:Good b H g)(N:lT g q d tt c me h)(T:TOk h.bV):cl 89 [.ref q 0 0] H=some (B (decide (h.ready≠[])),H):=by
 refine aV rfl rfl (an3 _ _ _) ?_ dQ;have l1:=G.guard.load N.1 (i:=1) (x:=.ref tt 0 0) rfl;have e1:=Hw G.guard N.2.2 T;have e2:=(gI H.guard h.ready).lnS;have hr:h.bV.ready (srt [] (h.bV.wait.map (·.1)))=h.ready:=rfl;rw [hr] at e1;by_cases hz:h.ready=[]
 ·have:¬(0:Int) < (h.ready.length:Int):=by rw [hz];decide
  simp only [xq_,afS,l1,e1,hz,ne_eq,not_true_eq_false]
  try rfl
 ·have:(0:Int) < (h.ready.length:Int):=by
   cases hx:h.ready with
   | nil=> exact absurd hx hz
   | cons a l=> simp only [zah];omega
  simp only [xq_,afS,l1,e1,e2,this,hz,ne_eq,not_false_eq_true]
end
section
variable {b:Nat}{H:ah}{g:bg}{q d tt:Nat}{c:Cfg}{me:Int}{h:Home}
theorem abU(G:Good b H g)(hb:H.base<=b)(N:lT g q d tt c me h)(T:TOk h.bV)(hr:∀e∈h.eF,e.2.data.length < 1000000000):
  ∃H',cl 91 [.ref q 0 0] H=some (.tup [.agg (h.grant me).2.1.av,B (h.grant me).2.2],H')/\Good b H' (kC g d tt c (h.grant me).1)/\Step b H H':=by
 refine jK rfl rfl (an5 _ _ _) ?_;have L:=(Loc.of G).newL (ty:=99) (xs:=zP9) (r:=H.next) rfl rfl;have s1:Step b H _:=Step.new (.blk 0 99 zP9) G.1;have hbK:(H.new (.blk 0 99 zP9)).base<=b:=by rw [iC];exact hb
 have l1:=L.good.load (L.obj N.1) (i:=1) (x:=.ref tt 0 0) rfl;have e1:=Hw L.good (L.obj N.2.2) T;have e2:=(gI (H.new (.blk 0 99 zP9)) h.ready).lnS;have hre:h.bV.ready (srt [] (h.bV.wait.map (·.1)))=h.ready:=rfl;rw [hre] at e1;have ez:bd 99 []=some (.agg zP9):=by simp only [xq_,xw,jo,dH]
 cases hz:h.ready with
 | nil=>
  have hm:h.grant me=(h,.zero,false):=by simp only [Home.grant,hz]
  rw [hm,Dh N];obtain⟨K,z1,z2,z3,z4⟩:=L.whole hbK aj (n:=9) (vs:=zP9) rfl rfl (by decide) rfl;refine⟨K,?_,z3.out,s1.trans z4⟩;rw [hz] at e1 e2;have n0:¬((0:Int) < ((([]:List Int).length:Nat):Int)):=by decide
  simp only [xq_,afU,l1,e1,e2];rw [XR];simp only [xq_,n0,ez,z1,z2,eP]
 | cons aB rest=>
  obtain⟨m1,m2,_⟩:=En hz;obtain⟨w,ws,hw⟩:∃w ws,h.bV.ws aB=w::ws:=by
   cases hx:h.bV.ws aB with
   | nil=> exact absurd hx m2
   | cons a l=> exact⟨a,l,rfl⟩
  have hn:h.bV.next aB=(⟨nC h.bV.jQ aB w.1,nC h.bV.wait aB ws⟩,some w):=by simp only [Turns.next,m1,hw,zal,if_false]
  have hm:h.grant me=({ h with bV:=(h.bV.next aB).1 },qF h.eF me aB w.1 w.2,true):=by simp only [Home.grant,hz,hn]
  rw [hm];obtain⟨K1,a1,a2,a3⟩:=YW L.good hbK (L.obj N.2.2) T.nd aB (T.ws aB);have M:=L.call N.2.2 a2;have NK:=N.agy { h with bV:=(h.bV.next aB).1 };rw [xK N] at NK ⊢;have NL:lT (lay (upd g tt (gU (h.bV.next aB).1)) (gV noL H.next zP9)) q d tt c me { h with bV:=(h.bV.next aB).1 }:=⟨M.obj NK.1,M.obj NK.2.1,M.obj NK.2.2⟩
  have gr:=Hu M.good NL hr aB w.1 w.2;obtain⟨K,z1,z2,z3,z4⟩:=M.whole (by rw [a3.base];exact hbK) aj (n:=9) (vs:=(qF h.eF me aB w.1 w.2).av) rfl (bH _) (by decide) (aK _);refine⟨K,?_,z3.out,(s1.trans a3).trans z4⟩;have hs:=gI (H.new (.blk 0 99 zP9)) h.ready;have x1:=hs.ix (k:=.i64) (i:=(0:Int)) (by omega) (by rw [hz];simp only [zah];omega);have x2:=hs.ld (i:=0) (by rw [hz];simp);rw [hz] at x1 x2 e1 e2;simp only [zaC,za2,zai] at x2;rw [show((0:Int).toNat)=0 from rfl] at x1;have n0:(0:Int) < (((aB::rest).length:Nat):Int):=by simp only [zah];omega
  rw [hn] at a1;simp only [alh,zat,zaG] at a1;simp only [xq_,afU,l1,e1,e2];rw [XR];simp only [xq_,n0,x1,x2,l1,a1,gr,z1,z2]
end
structure apS(c:Cfg)(o:Opn):Prop where
 k1:1<=o.bf
 k4:o.bf<=4
 aB:c.dS o.addr=o.addr.tdiv c.aQ
 lo:0<=c.dS o.addr
 hi:c.dS o.addr < c.aW
 word:c.jJ o.addr=o.addr.tmod c.aQ
 wlo:0<=c.jJ o.addr
 whi:c.jJ o.addr < c.aQ
theorem apT {c:Cfg}(hc:c.ok=true){o:Opn}(h:c.right o=true):apS c o:=by
 obtain⟨_,hl,hw,_⟩:=wO hc;unfold Cfg.right at h;simp only [zaj,decide_eq_true_eq] at h;obtain⟨⟨⟨h1,h2⟩,h3⟩,_⟩:=h;have h4:¬(o.addr < 0∨c.iF<=o.addr):=λe=> h3 (by unfold Cfg.dS;rw [if_pos e]);simp only [not_or] at h4;have e1:c.dS o.addr=o.addr / c.aQ:=by unfold Cfg.dS;rw [if_neg (by simp only [not_or];exact h4)]
 have e2:c.jJ o.addr=o.addr % c.aQ:=by unfold Cfg.jJ;rw [if_neg (by simp only [not_or];exact h4)]
 have ha:o.addr < c.aW*c.aQ:=by have:=h4.2;unfold Cfg.iF at this;omega
 refine⟨h1,h2,?_,?_,?_,?_,?_,?_⟩
 ·rw [e1,zcj (by omega)]
 ·rw [e1];exact zdp (by omega) (by omega)
 ·rw [e1];exact Int.ediv_lt_of_lt_mul (by omega) ha
 ·rw [e2,zbB (by omega)]
 ·rw [e2];exact zcF _ (by omega)
 ·rw [e2];exact zc2 _ (by omega)
theorem xO(e:Ent)(o:Opn)(w:Int):(kV e o w).aB=e.aB/\(kV e o w).used=e.used/\(kV e o w).fB=e.fB/\(kV e o w).data.length=e.data.length:=by
 unfold kV;split
 ·unfold Ent.write;split <;> simp
 ·split
  ·unfold Ent.write;split <;> simp
  ·simp
theorem Ve {c:Cfg}{e:Ent}{o:Opn}{w:Int}(hd:nO c e.data)(ho:I64 o.value):nO c (kV e o w).data:=by
 refine⟨by rw [(xO e o w).2.2.2];exact hd.1,?_⟩;have key:∀v,I64 v->∀x∈(e.write w v).data,I64 x:=by
  intro v hv x hx;unfold Ent.write at hx;split at hx
  ·rcases zcn hx with h | h
   ·exact hd.2 x h
   ·rw [h];exact hv
  ·exact hd.2 x hx
 unfold kV;split
 ·exact key _ ho
 ·split
  ·exact key _ (aio _)
  ·exact hd.2
theorem JO {ca:Cache}(hl:Lines ca.l){e:Ent}(h0:0<=e.aB)(hf:ca.full e.aB=false):∃u,(ca.put e).1.find e.aB=some { e with used:=u }:=by
 cases h:ca.find e.aB with
 | some x=>
  refine⟨x.used,?_⟩;rw [uI hl h0 h];obtain⟨hx,hxl⟩:=(jW hl).1 h;unfold Cache.find;rw [jW (yC hl λy _=> by
   split
   ·rename_i h;exact h.symm
   ·rfl)]
  exact⟨zaS.2 ⟨x,hx,by rw [if_pos hxl]⟩,rfl⟩
 | none=>
  refine⟨ca.dD+1,?_⟩;unfold Cache.put;rw [if_neg (by omega),I7.2 h];simp only [hf,zal,if_false];unfold Cache.find;rw [List.find?_append];have:(ca.l.find? λx=> decide (x.aB=e.aB))=none:=h;rw [this];simp
theorem EX(ca:Cache)(e:Ent):(ca.put e).1.dD<=ca.dD+1:=by
 unfold Cache.put;split
 ·simp only;omega
 ·split
  ·simp only;omega
  ·split <;> simp only <;> omega
theorem Aq(ca:Cache)(aB:Int):(ca.drop aB).dD=ca.dD:=by
 unfold Cache.drop;split <;> rfl
theorem uX(me:Int)(n:Node)(p:Pkt):n.after me p=Ba n.dO me n.aT p:=rfl
theorem zf {d:dF}{me:Int}{ca:Cache}{p:Pkt}(h:d.fits p=false):Ba d me ca p=wB ca:=by
 have h1:dN d me ca p=wB ca:=by unfold dN;rw [if_pos (.inr h)]
 have h2:dM d me ca p=wB ca:=by unfold dM;rw [if_pos (.inr h)]
 have h3:dX d ca p=wB ca:=by unfold dX;rw [if_pos (.inr h)]
 unfold Ba;rw [h1,h2,h3];split
 ·rfl
 ·split
  ·rfl
  ·split <;> rfl
theorem Zk {d:dF}{p:Pkt}(h:d.fits p=true):p.bf=J5 (OH d.step):=by
 unfold dF.fits at h;simp only [zaj,decide_eq_true_eq] at h;exact h.1.1.2
structure EY(c:Cfg)(d:dF)(ca:Cache)(d':dF)(ca':Cache):Prop where
 inv:Cb c ca'
 aB:d'.aB=d.aB
 bf:d'.bf=d.bf
 dat:d'.data=[]∨nO c d'.data
 afi:d'.bf=2->d'.step=3->nO c d'.data
 clk:ca'.dD<=ca.dD∨(d.bf≠3/\d'.step=6/\ca'.dD<=ca.dD+1)
 way:(d.step=6/\d'.step=0/\ca'=ca)∨(d'.step≠0/\d.step≠6/\(d.bf≠3->(d'.step≠6/\ca'=ca)∨(d'.step=6/\∃e,ca'.find d.aB=some e/\(d.bf=2->e.fB=true))))
theorem TG {c:Cfg}{ca:Cache}(I:Cb c ca){d:dF}{me:Int}(h0:0<=d.aB)(h1:d.aB < c.aW)(hf:ca.full d.aB=false)(hd:nO c d.data)(hk:d.bf=2)(hs:d.step≠6){d0:dF}(e1:d0.aB=d.aB)(e2:d0.bf=d.bf)(e3:d0.step≠6):
  EY c d0 ca (bP d me ca).2 (bP d me ca).1:=by
 have key:∀d':dF,d'.aB=d.aB->d'.bf=d.bf->d'.data=d.data->EY c d0 ca (if d'.next≠-1 then(ca,{ d' with step:=3 }) else((ca.put ⟨-1,-1,d'.aB,0,true,d'.data⟩).1,{ d' with step:=6,state:=2,head:=me,data:=[] })).2 (if d'.next≠-1 then(ca,{ d' with step:=3 }) else((ca.put ⟨-1,-1,d'.aB,0,true,d'.data⟩).1,{ d' with step:=6,state:=2,head:=me,data:=[] })).1:=by
  intro d' l1 l2 l3;by_cases h:d'.next≠-1
  ·rw [if_pos h];exact⟨I,by rw [e1];exact l1,by rw [e2];exact l2,.inr (by simp only [l3];exact hd),λ_ _=> by simp only [l3];exact hd,.inl (zby _),.inr ⟨by simp,e3,λ_=> .inl ⟨by simp,rfl⟩⟩⟩
  ·rw [if_neg h];obtain⟨u,hu⟩:=JO I.aW (e:=⟨-1,-1,d'.aB,0,true,d'.data⟩) (by simp only [l1];exact h0) (by simp only [l1];exact hf);have hu':(ca.put ⟨-1,-1,d'.aB,0,true,d'.data⟩).1.find d0.aB=some ⟨-1,-1,d'.aB,u,true,d'.data⟩:=by
    rw [e1,<-l1];exact hu
   exact⟨I.put (by simp only [l1];exact h0) (by simp only [l1];exact h1) (by simp only [l3];exact hd),by rw [e1];exact l1,by rw [e2];exact l2,.inl rfl,λ_ h=> by simp at h,.inr ⟨by rw [e2,hk];decide,rfl,EX _ _⟩,.inr ⟨by simp,e3,λ_=> .inr ⟨rfl,_,hu',λ_=> rfl⟩⟩⟩
 unfold bP;cases ca.find d.aB with
 | none=> exact key d rfl rfl rfl
 | some own=>
  by_cases h:d.next=me
  ·simp only [if_pos h];exact key { d with next:=own.fwd } rfl rfl rfl
  ·simp only [if_neg h];exact key d rfl rfl rfl
theorem TI {c:Cfg}{n:Node}{me:Int}(I:Cb c n.aT)(D:adq c n)(hs0:n.dO.step≠0){p:Pkt}(Q:wC c p){ca:Cache}{d:dF}(h:Ba n.dO me n.aT p=(ca,d,true)):EY c n.dO n.aT d ca:=by
 have hf:n.dO.fits p=true:=by
  cases e:n.dO.fits p with
  | true=> rfl
  | false=> rw [zf e] at h;simp [wB] at h
 have hpk:=Zk hf;have aot:n.dO.step=1->nO c p.data:=λe=> Q.dat (.inl (by rw [hpk,e];rfl));have aou:n.dO.step=2∨n.dO.step=3->nO c p.data:=λe=> Q.dat (.inr (by rcases e with e | e <;> rw [hpk,e] <;> rfl));have s6:n.dO.step=6->(n.aT,{ n.dO with step:=0 },true)=(ca,d,true)->EY c n.dO n.aT d ca:=λs e=> by
  simp only [zae,and_true] at e;obtain⟨rfl,rfl⟩:=e;exact⟨I,rfl,rfl,D.dat,λ_ h=> by simp at h,.inl (zby _),.inl ⟨s,rfl,rfl⟩⟩
 unfold Ba at h;by_cases k1:n.dO.bf=1
 ·rw [if_pos k1] at h;unfold dN at h;rw [if_neg (show¬(n.dO.bf≠1∨n.dO.fits p=false) by rw [hf];rintro(h | h) <;> first | omega | cases h)] at h;have W:=D.work (by omega);by_cases t1:n.dO.step=1
  ·rw [if_pos t1] at h;have W:=W (by omega);by_cases p0:p.state≠0
   ·rw [if_pos p0] at h;simp only [zae,and_true] at h;obtain⟨rfl,rfl⟩:=h;exact⟨I,rfl,rfl,.inr (aot t1),λh=> by simp only at h;omega,.inl (zby _),.inr ⟨by simp,by omega,λ_=> .inl ⟨by simp,rfl⟩⟩⟩
   ·rw [if_neg p0] at h;simp only [zae,and_true] at h;obtain⟨rfl,rfl⟩:=h;obtain⟨u,hu⟩:=JO I.aW (e:=⟨-1,-1,n.dO.aB,0,false,p.data⟩) D.lo W.full;exact⟨I.put D.lo D.hi (aot t1),rfl,rfl,.inl rfl,λ_ h=> by simp at h,.inr ⟨by omega,rfl,EX _ _⟩,.inr ⟨by simp,by omega,λ_=> .inr ⟨rfl,_,hu,λh=> by omega⟩⟩⟩
  rw [if_neg t1] at h;by_cases t2:n.dO.step=2
  ·rw [if_pos t2] at h;have W:=W (by omega);simp only [zae,and_true] at h;obtain⟨rfl,rfl⟩:=h;obtain⟨u,hu⟩:=JO I.aW (e:=⟨n.dO.head,-1,n.dO.aB,0,false,p.data⟩) D.lo W.full;refine⟨I.put D.lo D.hi (aou (.inl t2)),rfl,rfl,?_,λh=> by simp only at h;omega,.inr ⟨by omega,rfl,EX _ _⟩,.inr ⟨by simp,by omega,λ_=> .inr ⟨rfl,_,hu,λh=> by omega⟩⟩⟩;simp only;split
   ·exact .inr (aou (.inl t2))
   ·exact .inl rfl
  rw [if_neg t2] at h;by_cases t6:n.dO.step=6
  ·rw [if_pos t6] at h;exact s6 t6 h
  ·rw [if_neg t6] at h;simp [wB] at h
 rw [if_neg k1] at h;by_cases k2:n.dO.bf=2
 ·rw [if_pos k2] at h;unfold dM at h;rw [if_neg (show¬(n.dO.bf≠2∨n.dO.fits p=false) by rw [hf];rintro(h | h) <;> first | omega | cases h)] at h;have W:=D.work (by omega);by_cases t1:n.dO.step=1
  ·rw [if_pos t1] at h;have W:=W (by omega);simp only [zae,and_true] at h;obtain⟨rfl,rfl⟩:=h;have key:∀dt,nO c dt->EY c n.dO n.aT (bP { n.dO with state:=p.state,head:=p.ptr,told:=p.ptr,data:=dt,next:=p.ptr } me n.aT).2 (bP { n.dO with state:=p.state,head:=p.ptr,told:=p.ptr,data:=dt,next:=p.ptr } me n.aT).1:=λdt hdt=>
    TG (d:={ n.dO with state:=p.state,head:=p.ptr,told:=p.ptr,data:=dt,next:=p.ptr }) I D.lo D.hi W.full hdt k2 (show n.dO.step≠6 by omega) rfl rfl (by omega)
   cases hfd:n.aT.find n.dO.aB with
   | none=> exact key _ (aot t1)
   | some e=> exact key _ (I.ent e ((jW I.aW).1 hfd).1).dat
  rw [if_neg t1] at h;by_cases t3:n.dO.step=3
  ·rw [if_pos t3] at h;have W:=W (by omega);simp only [zae,and_true] at h;obtain⟨rfl,rfl⟩:=h;have key:∀dt,nO c dt->EY c n.dO n.aT (bP { n.dO with data:=dt,next:=p.ptr } me n.aT).2 (bP { n.dO with data:=dt,next:=p.ptr } me n.aT).1:=λdt hdt=>
    TG (d:={ n.dO with data:=dt,next:=p.ptr }) I D.lo D.hi W.full hdt k2 (show n.dO.step≠6 by omega) rfl rfl (by omega)
   cases hfd:n.aT.find n.dO.aB with
   | none=> exact key _ (aou (.inr t3))
   | some e=> exact key _ (D.afi k2 t3)
  rw [if_neg t3] at h;by_cases t6:n.dO.step=6
  ·rw [if_pos t6] at h;exact s6 t6 h
  ·rw [if_neg t6] at h;simp [wB] at h
 rw [if_neg k2] at h;have k3:n.dO.bf=3:=by have:=D.bf;omega
 rw [if_pos k3] at h;unfold dX at h;rw [if_neg (show¬(n.dO.bf≠3∨n.dO.fits p=false) by rw [hf];rintro(h | h) <;> first | omega | cases h)] at h;have no3:∀{P:Prop},n.dO.bf≠3->P:=λh=> absurd k3 h;by_cases t1:n.dO.step=1
 ·rw [if_pos t1] at h;cases hfd:n.aT.find n.dO.aB with
  | none=>
   simp only [hfd,zae,and_true] at h;obtain⟨rfl,rfl⟩:=h;exact⟨I,rfl,rfl,.inl rfl,λh=> by simp only at h;omega,.inl (zby _),.inr ⟨by simp,by omega,no3⟩⟩
  | some e=>
   simp only [hfd] at h;have E:=I.ent e ((jW I.aW).1 hfd).1;by_cases b1:e.back=-1/\e.fwd=-1
   ·simp only [if_pos b1,zae,and_true] at h;obtain⟨rfl,rfl⟩:=h;refine⟨I.drop _,rfl,rfl,?_,λh=> by simp only at h;omega,.inl (by rw [Aq];exact zby _),.inr ⟨by simp,by omega,no3⟩⟩;simp only;split
    ·exact .inr E.dat
    ·exact .inl rfl
   ·simp only [if_neg b1] at h;by_cases b2:e.back=-1
    ·simp only [if_pos b2,zae,and_true] at h;obtain⟨rfl,rfl⟩:=h;exact⟨I,rfl,rfl,.inl rfl,λh=> by simp only at h;omega,.inl (zby _),.inr ⟨by simp,by omega,no3⟩⟩
    ·simp only [if_neg b2,zae,and_true] at h;obtain⟨rfl,rfl⟩:=h;exact⟨I,rfl,rfl,.inl rfl,λh=> by simp only at h;omega,.inl (zby _),.inr ⟨by simp,by omega,no3⟩⟩
 rw [if_neg t1] at h;have out:∀hd,ig n.dO n.aT hd=(ca,d,true)->n.dO.step≠6->EY c n.dO n.aT d ca:=λhd e hs=> by
  simp only [ig,zae,and_true] at e;obtain⟨rfl,rfl⟩:=e;exact⟨I.drop _,rfl,rfl,.inl rfl,λh=> by simp only at h;omega,.inl (by rw [Aq];exact zby _),.inr ⟨by simp,hs,no3⟩⟩
 by_cases t4:n.dO.step=4
 ·rw [if_pos t4] at h;split at h
  ·exact out _ h (by omega)
  ·simp only [zae,and_true] at h;obtain⟨rfl,rfl⟩:=h;exact⟨I,rfl,rfl,D.dat,λh=> by simp only at h;omega,.inl (zby _),.inr ⟨by simp,by omega,no3⟩⟩
 rw [if_neg t4] at h;by_cases t5:n.dO.step=5
 ·rw [if_pos t5] at h;split at h
  ·exact out _ h (by omega)
  ·exact out _ h (by omega)
 rw [if_neg t5] at h;by_cases t6:n.dO.step=6
 ·rw [if_pos t6] at h;exact s6 t6 h
 ·rw [if_neg t6] at h;simp [wB] at h
structure OJ where
 a:Nat->Nat
 f:Nat
 P:Nat->Nat->Nat
 t:Nat
def aeA(S:OJ)(k:Nat)(q:Nat):Prop:=(∃i,i < 6/\q=S.a i)∨J6 S.P k q∨q=S.t
structure NW(g:bg)(S:OJ)(c:Cfg)(me:Int)(w:NFT):Prop where
 bn:nH g S.a c me w.1
 fab:gY g S.f S.P c w.2.1
 tr:g S.t=some (kH w.2.2)
 UY:Qk S.P w.2.1.l.length
 tf:S.t≠S.f
theorem iW {g:bg}{x y:Nat}{A B:List Cell}(h:g x=some A)(h':g y=some B)(hl:A.length≠B.length):x≠y:=λe=> by
 subst e;rw [h] at h';exact hl (by rw [zaX h'])
theorem alH {g:bg}{x y:Nat}{A B:List Cell}(h:g x=some A)(h':g y=some B)(hl:A[1]?≠B[1]?):x≠y:=λe=> by
 subst e;rw [h] at h';exact hl (by rw [zaX h'])
section
variable {b:Nat}{K K':ah}{g g':bg}{ls:Lcl}{S:OJ}{c:Cfg}{me:Int}{w:NFT}
theorem gu {a:Nat->Nat}{d:dF}{num:Int}:(uP a c me d num).length=22:=by simp [uP,FC,Cfg.av,dF.av]
theorem lU {l:List Evn}:(kH l).length=1:=rfl
theorem jE {P:Nat->Nat->Nat}{n:Nat}:(abz P n).length=1:=rfl
theorem fF {ca:Cache}:(bJ ca).length=4:=rfl
theorem iD {p:Proc}:(oP p).length=3:=rfl
theorem fG {t:Turns}:(gU t).length=2:=rfl
theorem jm {l:List Pkt}{r:Int}:(lQ l r).length=2:=rfl
theorem jF {r:Rows}:(Bo c r).length=9:=by simp [Bo,Cfg.av]
theorem iL {d t:Nat}:(Ae d t c me).length=11:=by simp [Ae,Cfg.av]
theorem NW.Zl(N:NW g S c me w):(∀i,i < 6->S.a i≠S.t):=λi hi=> by
 obtain⟨h0,h1,h2,h3,h4,h5⟩:=N.bn
 match i,hi with
 | 0,_=> exact iW h0 N.tr (by simp only [gu,lU];decide)
 | 1,_=> exact iW h1 N.tr (by simp only [lU,fF];decide)
 | 2,_=> exact iW h2 N.tr (by simp only [lU,iD];decide)
 | 3,_=> exact iW h3 N.tr (by simp only [lU,iL];decide)
 | 4,_=> exact iW h4 N.tr (by simp only [lU,jF];decide)
 | 5,_=> exact iW h5 N.tr (by simp only [lU,fG];decide)
theorem NW.aov(N:NW g S c me w):(∀i,i < 6->S.a i≠S.f):=λi hi=> by
 obtain⟨h0,h1,h2,h3,h4,h5⟩:=N.bn;have h:=N.fab.1
 match i,hi with
 | 0,_=> exact iW h0 h (by simp only [gu,jE];decide)
 | 1,_=> exact iW h1 h (by simp only [jE,fF];decide)
 | 2,_=> exact iW h2 h (by simp only [jE,iD];decide)
 | 3,_=> exact iW h3 h (by simp only [jE,iL];decide)
 | 4,_=> exact iW h4 h (by simp only [jE,jF];decide)
 | 5,_=> exact iW h5 h (by simp only [jE,fG];decide)
theorem NW.port {q:Nat}(N:NW g S c me w)(h:J6 S.P w.2.1.l.length q):∃l r,g q=some (lQ l r):=by
 obtain⟨i,s,hi,hs,rfl⟩:=h;exact⟨_,_,gJ (N.fab.port hi) hs⟩
theorem NW.Vf(N:NW g S c me w){q:Nat}(h:J6 S.P w.2.1.l.length q):(∀i,i < 6->S.a i≠q)/\S.t≠q/\S.f≠q:=by
 obtain⟨l,r,hg⟩:=N.port h;obtain⟨h0,h1,h2,h3,h4,h5⟩:=N.bn;refine⟨λi hi=> ?_,iW N.tr hg (by simp only [lU,jm];decide),iW N.fab.1 hg (by simp only [jE,jm];decide)⟩
 match i,hi with
 | 0,_=> exact iW h0 hg (by simp only [gu,jm];decide)
 | 1,_=> exact iW h1 hg (by simp only [fF,jm];decide)
 | 2,_=> exact iW h2 hg (by simp only [iD,jm];decide)
 | 3,_=> exact iW h3 hg (by simp only [jm,iL];decide)
 | 4,_=> exact iW h4 hg (by simp only [jm,jF];decide)
 | 5,_=> exact alH h5 hg (by simp [gU,lQ])
theorem gY.same {f:Nat}{P:Nat->Nat->Nat}{fab:Fab}(F:gY g f P c fab)(hf:g' f=g f)(hp:∀q,J6 P fab.l.length q->g' q=g q):gY g' f P c fab:=
 ⟨by rw [hf];exact F.1,λi p hi=> (F.2.1 i p hi).ext λs hs=> hp _ ⟨i,s,(zak.1 hi).1,hs,rfl⟩,F.2.2⟩
theorem NW.set(N:NW g S c me w){n:Node}(hn:nH g' S.a c me n)(h:∀q,(∀i,i < 6->q≠S.a i)->g' q=g q):NW g' S c me (n,w.2):=by
 refine⟨hn,N.fab.same (h _ λi hi=> (N.aov i hi).symm) (λq hq=> h _ λi hi=> ((N.Vf hq).1 i hi).symm),?_,N.UY,N.tf⟩;rw [h _ λi hi=> (N.Zl i hi).symm];exact N.tr
theorem Off.ami {k:Nat}(h:∀q,(∀i,i < 6->q≠S.a i)->g' q=g q):Off (aeA S k) g g':=λq hq=> h q λi hi e=> hq (.inl ⟨i,hi,e⟩)
theorem Ar {i:Nat}(hi:i < 6){cs:List Cell}:∀q,(∀i,i < 6->q≠S.a i)->upd g (S.a i) cs q=g q:=λq hq=> aY (hq i hi)
theorem NW.aT(N:NW g S c me w)(ca:Cache):NW (upd g (S.a 1) (bJ ca)) S c me ({ w.1 with aT:=ca },w.2):=by
 refine N.set ?_ (Ar (by decide));have I:=N.bn;obtain⟨h0,h1,h2,h3,h4,h5⟩:=N.bn;have ne:∀i,i < 6->i≠1->S.a i≠S.a 1:=λi hi h e=> h (I.inj hi (by decide) e);exact⟨by rw [aY (ne 0 (by decide) (by decide))];exact h0,aN,by rw [aY (ne 2 (by decide) (by decide))];exact h2,by rw [aY (ne 3 (by decide) (by decide))];exact h3,by rw [aY (ne 4 (by decide) (by decide))];exact h4,by rw [aY (ne 5 (by decide) (by decide))];exact h5⟩
theorem NW.dK(N:NW g S c me w)(p:Proc):NW (upd g (S.a 2) (oP p)) S c me ({ w.1 with dK:=p },w.2):=by
 refine N.set ?_ (Ar (by decide));have I:=N.bn;obtain⟨h0,h1,h2,h3,h4,h5⟩:=N.bn;have ne:∀i,i < 6->i≠2->S.a i≠S.a 2:=λi hi h e=> h (I.inj hi (by decide) e);exact⟨by rw [aY (ne 0 (by decide) (by decide))];exact h0,by rw [aY (ne 1 (by decide) (by decide))];exact h1,aN,by rw [aY (ne 3 (by decide) (by decide))];exact h3,by rw [aY (ne 4 (by decide) (by decide))];exact h4,by rw [aY (ne 5 (by decide) (by decide))];exact h5⟩
theorem NW.own(N:NW g S c me w)(d:dF)(num:Int):NW (upd g (S.a 0) (uP S.a c me d num)) S c me ({ w.1 with dO:=d,num:=num },w.2):=by
 refine N.set ?_ (Ar (by decide));have I:=N.bn;obtain⟨h0,h1,h2,h3,h4,h5⟩:=N.bn;have ne:∀i,i < 6->i≠0->S.a i≠S.a 0:=λi hi h e=> h (I.inj hi (by decide) e);exact⟨aN,by rw [aY (ne 1 (by decide) (by decide))];exact h1,by rw [aY (ne 2 (by decide) (by decide))];exact h2,by rw [aY (ne 3 (by decide) (by decide))];exact h3,by rw [aY (ne 4 (by decide) (by decide))];exact h4,by rw [aY (ne 5 (by decide) (by decide))];exact h5⟩
theorem NW.home(N:NW g S c me w)(h:Home):NW (kC g (S.a 4) (S.a 5) c h) S c me ({ w.1 with home:=h },w.2):=by
 have I:=N.bn;obtain⟨h0,h1,h2,hh⟩:=N.bn;refine N.set ?_ λq hq=> ?_
 ·have ne:∀i j,i < 6->j < 6->i≠j->S.a i≠S.a j:=λi j hi hj h e=> h (I.inj hi hj e);refine⟨?_,?_,?_,hh.agy h⟩
  ·unfold kC;rw [aY (ne 0 5 (by decide) (by decide) (by decide)),aY (ne 0 4 (by decide) (by decide) (by decide))];exact h0
  ·unfold kC;rw [aY (ne 1 5 (by decide) (by decide) (by decide)),aY (ne 1 4 (by decide) (by decide) (by decide))];exact h1
  ·unfold kC;rw [aY (ne 2 5 (by decide) (by decide) (by decide)),aY (ne 2 4 (by decide) (by decide) (by decide))];exact h2
 ·unfold kC;rw [aY (hq 5 (by decide)),aY (hq 4 (by decide))]
theorem NW.trace(N:NW g S c me w)(l:List Evn):NW (upd g S.t (kH l)) S c me (w.1,w.2.1,l):=by
 refine⟨N.bn.ext λs hs=> aY (N.Zl s hs),N.fab.same (aY N.tf.symm) (λq hq=> aY (N.Vf hq).2.1.symm),aN,N.UY,N.tf⟩
theorem NW.net(N:NW g S c me w){fab:Fab}(F:gY g' S.f S.P c fab)(hl:fab.l.length=w.2.1.l.length)(O:Off (J6 S.P w.2.1.l.length) g g'):NW g' S c me (w.1,fab,w.2.2):=by
 have no:∀i,i < 6->¬J6 S.P w.2.1.l.length (S.a i):=λi hi h=> (N.Vf h).1 i hi rfl;refine⟨N.bn.ext λs hs=> O _ (no s hs),F,?_,by rw [hl];exact N.UY,N.tf⟩;rw [O _ λh=> (N.Vf h).2.1 rfl];exact N.tr
theorem NW.sub(N:NW g S c me w)(h:uf g g'):NW g' S c me w:=
 ⟨N.bn.ext λs hs=> by obtain⟨l,hl⟩:=N.bn.some hs;rw [hl,h _ _ hl],N.fab.sub h,h _ _ N.tr,N.UY,N.tf⟩
theorem Loc.sub(L:Loc b K g ls):uf g (lay g ls):=λq cs h=> L.obj h
theorem Loc.home(L:Loc b K g ls){d t:Nat}{cs cs':List Cell}(h4:g d=some cs)(h5:g t=some cs'){h:Home}(G:Good b K' (kC (lay g ls) d t c h)):Loc b K' (kC g d t c h) ls:=by
 have e4:=(L.at_ h4).2;have e5:=(L.at_ h5).2;unfold kC at G ⊢;refine⟨by rw [JL e5,JL e4];exact G,λr hr=> ?_⟩;rw [aY (λe=> by subst e;exact hr e5),aY (λe=> by subst e;exact hr e4)];exact L.free r hr
theorem Loc.net(L:Loc b K g ls){T:Nat->Prop}(hT:∀q,T q->g q≠none){g1:bg}(G:Good b K' g1)(O:Off T (lay g ls) g1):∃g',Loc b K' g' ls/\Off T g g'/\∀q,ls q=none->g' q=g1 q:=by
 let g':bg:=λq=> match ls q with
  | some _=> none
  | none=> g1 q
 have at1:∀q,ls q=none->g' q=g1 q:=λq h=> by simp only [g',h]
 have e:lay g' ls=g1:=by
  funext q
  cases h:ls q with
  | none=> simp only [lay,h];exact at1 q h
  | some xs=>
   have:¬T q:=λht=> hT q ht (L.free q (by rw [h];simp));rw [O q this];simp only [lay,h]
 refine⟨g',⟨by rw [e];exact G,λr hr=> ?_⟩,λq hq=> ?_,at1⟩
 ·simp only [g'];cases h:ls r with
  | none=> exact absurd h hr
  | some xs=> rfl
 ·cases h:ls q with
  | none=> rw [at1 q h,O q hq];simp only [lay,h]
  | some xs=>
   simp only [g',h];rw [L.free q (by rw [h];simp)]
end
theorem NW.agree {g g':bg}{S:OJ}{c:Cfg}{me:Int}{w:NFT}(N:NW g S c me w)(h:∀q,aeA S w.2.1.l.length q∨q=S.f->g' q=g q):NW g' S c me w:=
 ⟨N.bn.ext λs hs'=> h _ (.inl (.inl ⟨s,hs',rfl⟩)),N.fab.same (h _ (.inr rfl)) λq hq=> h _ (.inl (.inr (.inl hq))),by rw [h _ (.inl (.inr (.inr rfl)))];exact N.tr,N.UY,N.tf⟩
theorem NW.here {g:bg}{S:OJ}{c:Cfg}{me:Int}{w:NFT}(N:NW g S c me w){q:Nat}(h:aeA S w.2.1.l.length q):g q≠none:=by
 rcases h with⟨i,hi,rfl⟩ | hp | rfl
 ·obtain⟨l,hl⟩:=N.bn.some hi;rw [hl];simp
 ·obtain⟨l,r,hl⟩:=N.port hp;rw [hl];simp
 ·rw [N.tr];simp
def ao7(b:Nat)(H:ah)(g:bg)(S:OJ)(c:Cfg)(me:Int)(k:Nat)(H':ah)(w':NFT):Prop:=
 ∃g',Good b H' g'/\NW g' S c me w'/\Off (aeA S k) g g'/\Step b H H'/\w'.2.1.l.length=k
structure Walk(b:Nat)(H:ah)(g0:bg)(S:OJ)(c:Cfg)(me:Int)(k:Nat)(K:ah)(g:bg)(ls:Lcl)(w:NFT):Prop where
 hb:H.base<=b
 loc:Loc b K g ls
 nw:NW g S c me w
 off:Off (aeA S k) g0 g
 step:Step b H K
 len:w.2.1.l.length=k
section
variable {b:Nat}{H:ah}{g0:bg}{S:OJ}{c:Cfg}{me:Int}{k:Nat}{K K':ah}{g:bg}{ls:Lcl}{w w':NFT}
theorem Walk.of {g:bg}(G:Good b H g)(hb:H.base<=b)(N:NW g S c me w):Walk b H g S c me w.2.1.l.length H g noL w:=⟨hb,Loc.of G,N,Off.refl _ _,Step.refl _ _,rfl⟩
theorem Walk.base(W:Walk b H g0 S c me k K g ls w):K.base<=b:=by rw [W.step.base];exact W.hb
theorem Walk.res(W:Walk b H g0 S c me k K g ls w):ao7 b H g0 S c me k K w:=⟨g,W.loc.out,W.nw,W.off,W.step,W.len⟩
theorem Walk.newL(W:Walk b H g0 S c me k K g ls w){ty:TypeId}{xs:List AV}{r:Nat}(hc:xs.all AV.aU=true)(hr:r=K.next)(ht:ty < fQ:=by decide):Walk b H g0 S c me k (K.new (.blk 0 ty xs)) g (gV ls r xs) w:=
 ⟨W.hb,W.loc.newL hc hr ht,W.nw,W.off,W.step.trans (Step.new _ W.loc.good.1),W.len⟩
theorem Walk.whole(W:Walk b H g0 S c me k K g ls w){r n:Nat}{xs vs:List AV}(h:ls r=some xs)(hx:xs.length=n)(hn:vs.length=n)(hp:0 < n)(hv:vs.all AV.aU=true):
  ∃K',Proofs.YtmdbbfoefdjgoaaGreat.st n (.ref r 0 0) (.agg vs) K=some (aO,K')/\Proofs.YtmdbbfoefdjgoaaGreat.lda n (.ref r 0 0) K'=some (.agg vs,K')/\Walk b H g0 S c me k K' g (gV ls r vs) w:=by
 obtain⟨K',h1,h2,h3,h4⟩:=W.loc.whole W.base h hx hn hp hv;exact⟨K',h1,h2,W.hb,h3,W.nw,W.off,W.step.trans h4,W.len⟩
theorem Walk.same(W:Walk b H g0 S c me k K g ls w)(G:Good b K' (lay g ls))(s:Step b K K'):Walk b H g0 S c me k K' g ls w:=⟨W.hb,⟨G,W.loc.free⟩,W.nw,W.off,W.step.trans s,W.len⟩
theorem Walk.aT(W:Walk b H g0 S c me k K g ls w){ca:Cache}(G:Good b K' (upd (lay g ls) (S.a 1) (bJ ca)))(s:Step b K K'):Walk b H g0 S c me k K' (upd g (S.a 1) (bJ ca)) ls ({ w.1 with aT:=ca },w.2):=
 ⟨W.hb,W.loc.call W.nw.bn.2.1 G,W.nw.aT ca,W.off.trans (Off.ami (Ar (by decide))),W.step.trans s,W.len⟩
theorem Walk.dK(W:Walk b H g0 S c me k K g ls w){p:Proc}(G:Good b K' (upd (lay g ls) (S.a 2) (oP p)))(s:Step b K K'):Walk b H g0 S c me k K' (upd g (S.a 2) (oP p)) ls ({ w.1 with dK:=p },w.2):=
 ⟨W.hb,W.loc.call W.nw.bn.2.2.1 G,W.nw.dK p,W.off.trans (Off.ami (Ar (by decide))),W.step.trans s,W.len⟩
theorem Walk.own(W:Walk b H g0 S c me k K g ls w){d:dF}{num:Int}(G:Good b K' (upd (lay g ls) (S.a 0) (uP S.a c me d num)))(s:Step b K K'):Walk b H g0 S c me k K' (upd g (S.a 0) (uP S.a c me d num)) ls ({ w.1 with dO:=d,num:=num },w.2):=
 ⟨W.hb,W.loc.call W.nw.bn.1 G,W.nw.own d num,W.off.trans (Off.ami (Ar (by decide))),W.step.trans s,W.len⟩
theorem Walk.home(W:Walk b H g0 S c me k K g ls w){h:Home}(G:Good b K' (kC (lay g ls) (S.a 4) (S.a 5) c h))(s:Step b K K'):Walk b H g0 S c me k K' (kC g (S.a 4) (S.a 5) c h) ls ({ w.1 with home:=h },w.2):=by
 obtain⟨h0,h1,h2⟩:=W.nw.bn.2.2.2;refine⟨W.hb,W.loc.home h1 h2 G,W.nw.home h,W.off.trans (Off.ami λq hq=> ?_),W.step.trans s,W.len⟩;unfold kC;rw [aY (hq 5 (by decide)),aY (hq 4 (by decide))]
theorem Walk.trace(W:Walk b H g0 S c me k K g ls w){l:List Evn}(G:Good b K' (upd (lay g ls) S.t (kH l)))(s:Step b K K'):Walk b H g0 S c me k K' (upd g S.t (kH l)) ls (w.1,w.2.1,l):=
 ⟨W.hb,W.loc.call W.nw.tr G,W.nw.trace l,W.off.trans (Off.upd (.inr (.inr rfl))),W.step.trans s,W.len⟩
theorem Walk.NY(W:Walk b H g0 S c me k K g ls w):NW (lay g ls) S c me w:=W.nw.sub W.loc.sub
theorem Walk.net(W:Walk b H g0 S c me k K g ls w){g1:bg}{fab:Fab}(G:Good b K' g1)(F:gY g1 S.f S.P c fab)(hl:fab.l.length=w.2.1.l.length)(O:Off (J6 S.P w.2.1.l.length) (lay g ls) g1)(s:Step b K K'):∃g',Walk b H g0 S c me k K' g' ls (w.1,fab,w.2.2):=by
 obtain⟨g',L,O',h⟩:=W.loc.net (T:=J6 S.P w.2.1.l.length) (λq hq=> by obtain⟨l,r,e⟩:=W.nw.port hq;rw [e];simp) G O;have no:∀{q cs},g q=some cs->ls q=none:=λe=> (W.loc.at_ e).2;have F':gY g' S.f S.P c fab:=F.same (h _ (no W.nw.fab.1)) λq hq=> by
  rw [hl] at hq;obtain⟨l,r,e⟩:=W.nw.port hq;exact h _ (no e)
 refine⟨g',W.hb,L,W.nw.net F' hl O',W.off.trans (O'.mono λq hq=> .inr (.inl (by rw [<-W.len];exact hq))),W.step.trans s,by rw [<-W.len];exact hl⟩
theorem Walk.app(W:Walk b H g0 S c me k K g ls w)(h:ao7 b K (lay g ls) S c me k K' w'):∃g',Walk b H g0 S c me k K' g' ls w':=by
 obtain⟨g1,G,N,O,s,hl⟩:=h;obtain⟨g',L,O',h⟩:=W.loc.net (T:=aeA S k) (λq hq=> W.nw.here (by rw [W.len];exact hq)) G O;have no:∀q,g q≠none->ls q=none:=λq hq=> by
  cases e:ls q with
  | none=> rfl
  | some xs=> exact absurd (W.loc.free q (by rw [e];simp)) hq
 refine⟨g',W.hb,L,N.agree λq hq=> h q (no q ?_),W.off.trans O',W.step.trans s,hl⟩;rcases hq with hq | rfl
 ·exact W.nw.here (by rw [W.len,<-hl];exact hq)
 ·rw [W.nw.fab.1];simp
end
section
variable {b:Nat}{H:ah}{g0:bg}{S:OJ}{c:Cfg}{me:Int}{k:Nat}{K K':ah}{g:bg}{ls:Lcl}{w w':NFT}
structure PSz(p:Proc):Prop where
 ops:p.ops.length < 1000
 vals:p.dP.length<=p.ops.length
theorem Walk.ldN(W:Walk b H g0 S c me k K g ls w){i:Nat}{v:AV}(hi:(FC S.a c me w.1.dO w.1.num)[i]?=some v):ld (.ref (S.a 0) 0 i) K=some (v,K):=
 W.loc.good.load (W.loc.obj W.nw.bn.1) (i:=i) (x:=v) (by rw [uP,zaD,hi];rfl)
theorem Walk.alI(W:Walk b H g0 S c me k K g ls w){i n:Nat}{ys:List AV}(hi:((FC S.a c me w.1.dO w.1.num).drop i).take n=ys)(hn:ys.length=n)(hp:0 < n):lda n (.ref (S.a 0) 0 i) K=some (.agg ys,K):=
 W.loc.good.loads (W.loc.obj W.nw.bn.1) (i:=i) (n:=n) (xs:=ys) (by rw [uP,<-hi,zcz,zdd]) hn hp
theorem Walk.cur(W:Walk b H g0 S c me k K g ls w)(hp:PSz w.1.dK):∃K',cl 85 [.ref (S.a 2) 0 0] K=some (.tup [.agg w.1.dK.op.av,I w.1.dK.idx,B w.1.dK.cur.isSome],K')/\Walk b H g0 S c me k K' g ls w:=by
 obtain⟨K',h1,h2,h3⟩:=agJ W.loc.good W.base (W.loc.obj W.nw.bn.2.2.1) hp.ops (by have:=hp.vals;have:=hp.ops;omega) hp.vals;exact⟨K',h1,W.same h2 h3⟩
theorem Walk.pend(W:Walk b H g0 S c me k K g ls w)(hp:PSz w.1.dK)(v:Int):∃r K' g',cl 131 [.ref (S.a 2) 0 0,I v] K=some (r,K')/\Walk b H g0 S c me k K' g' ls ({ w.1 with dK:=w.1.dK.VH v },w.2):=by
 obtain⟨r,K',h1,h2,h3⟩:=agI W.loc.good W.base (W.loc.obj W.nw.bn.2.2.1) (by have:=hp.vals;have:=hp.ops;omega) v;exact⟨r,K',_,h1,W.dK h2 h3⟩
theorem Walk.tend(W:Walk b H g0 S c me k K g ls w)(hl:w.2.2.length < 1000000)(n i v:Int):∃K' g',cl 132 [.ref S.t 0 0,I n,I i,I v] K=some (.tup [],K')/\Walk b H g0 S c me k K' g' ls (w.1,w.2.1,w.2.2++[⟨n,i,true,v⟩]):=by
 obtain⟨K',h1,h2,h3⟩:=abS W.loc.good W.base (W.loc.obj W.nw.tr) hl n i v;exact⟨K',_,h1,W.trace h2 h3⟩
theorem Walk.alJ(W:Walk b H g0 S c me k K g ls w)(hl:w.2.2.length < 1000000)(n i:Int):∃K' g',cl 97 [.ref S.t 0 0,I n,I i] K=some (.tup [],K')/\Walk b H g0 S c me k K' g' ls (w.1,w.2.1,w.2.2++[⟨n,i,false,0⟩]):=by
 obtain⟨K',h1,h2,h3⟩:=Vb W.loc.good W.base (W.loc.obj W.nw.tr) hl n i;exact⟨K',_,h1,W.trace h2 h3⟩
theorem Walk.apU(W:Walk b H g0 S c me k K g ls w)(C:COk w.1.aT)(e:Ent){x:AV}(hel:e.data.length < 1000000000)(hx:jR K x e.data):∃K' g',cl 135 [.ref (S.a 1) 0 0,.agg (e.avx x)] K=some (I (w.1.aT.put e).2,K')/\Walk b H g0 S c me k K' g' ls ({ w.1 with aT:=(w.1.aT.put e).1 },w.2):=by
 obtain⟨K',h1,h2,h3⟩:=Ti W.loc.good W.base (W.loc.obj W.nw.bn.2.1) C.len C.sets C.clk e hel hx;exact⟨K',_,h1,W.aT h2 h3⟩
theorem Walk.find(W:Walk b H g0 S c me k K g ls w)(C:COk w.1.aT)(aB:Int):cl 98 [.ref (S.a 1) 0 0,I aB] K=some (iV (w.1.aT.find aB),K):=
 lM W.loc.good (W.loc.obj W.nw.bn.2.1) C.len C.dat aB
theorem Walk.send(W:Walk b H g0 S c me k K g ls w)(F:FOk c w.2.1)(p:Pkt)(hl:p.data.length < 1000000000):∃K' g',cl 92 [.ref S.f 0 0,.agg p.av] K=some (I (w.2.1.send p).2,K')/\Walk b H g0 S c me k K' g' ls (w.1,(w.2.1.send p).1,w.2.2):=by
 obtain⟨K',g1,h1,h2,h3,h4,h5⟩:=agB W.loc.good W.base W.NY.fab W.nw.UY F p hl;have hlen:(w.2.1.send p).1.l.length=w.2.1.l.length:=by
  unfold Fab.send;split
  ·rfl
  ·split
   ·rfl
   ·simp [Fab.put]
 obtain⟨g',W'⟩:=W.net h2 h3 hlen h4 h5;exact⟨K',g',h1,W'⟩
theorem Zm(W:Walk b H g0 S c me k K g ls w)(hp:PSz w.1.dK)(hl:w.2.2.length < 1000000)(v:Int):
  ∃K' g',cl 86 [.ref (S.a 0) 0 0,.ref S.t 0 0,I v] K=some (.tup [],K')/\Walk b H g0 S c me k K' g' ls ((w.1.done me w.2.2 v).1,w.2.1,(w.1.done me w.2.2 v).2):=by
 have G:=W.loc.good;have W0:=Walk.of G W.base W.NY;have l1:=W0.ldN (i:=1) (v:=.ref (S.a 2) 0 0) rfl;obtain⟨K1,a1,W1⟩:=W0.cur hp;have W2:=W1.newL (ty:=26) (xs:=[zI,zI,zI]) (r:=K1.next) rfl rfl;obtain⟨K3,b1,b2,W3⟩:=W2.whole aj (n:=3) (vs:=w.1.dK.op.av) rfl (fH _) (by decide) (nK _);have l3:=W3.ldN (i:=1) (v:=.ref (S.a 2) 0 0) rfl;obtain⟨r,K4,g4,c1,W4⟩:=W3.pend hp v;have l4:=W4.ldN (i:=10) (v:=I me) rfl;obtain⟨K5,g5,d1,W5⟩:=W4.tend hl me w.1.dK.idx v;obtain⟨g',W'⟩:=W.app (K':=K5) (w':=((w.1.done me w.2.2 v).1,w.2.1,(w.1.done me w.2.2 v).2)) (by
  have:=W5.res;rw [W.len] at this;exact this)
 refine⟨K5,g',aX rfl rfl (anY _ _ _ _ _ ?_),W'⟩;simp only [xq_,ajr,l1,a1,b1,l3,c1,l4,d1]
theorem QA(W:Walk b H g0 S c me k K g ls w)(hc:c.ok=true)(F:FOk c w.2.1)(hd:w.1.dO.data.length < 1000000000):
  ∃K' g',cl 88 [.ref (S.a 0) 0 0,.ref S.f 0 0] K=some (.tup [],K')/\Walk b H g0 S c me k K' g' ls (w.1,w.1.ail c me w.2.1,w.2.2):=by
 have G:=W.loc.good;have W0:=Walk.of G W.base W.NY;have l1:=W0.alI (i:=12) (n:=9) (ys:=w.1.dO.av) rfl rfl (by decide);have l2:=W0.ldN (i:=10) (v:=I me) rfl;have l3:=W0.alI (i:=2) (n:=8) (ys:=c.av) rfl rfl (by decide);have l4:=W0.ldN (i:=13) (v:=I w.1.dO.aB) rfl;have e1:=uO K.guard c hc w.1.dO.aB;have e2:=alE K w.1.dO me (c.fA w.1.dO.aB) hd;have hal:(w.1.dO.ask me (c.fA w.1.dO.aB)).data.length < 1000000000:=by
  unfold dF.ask
  repeat' split
  all_goals first | exact hd | exact(show(0:Nat) < 1000000000 by decide)
 obtain⟨K5,g5,d1,W5⟩:=W0.send F (w.1.dO.ask me (c.fA w.1.dO.aB)) hal;obtain⟨g',W'⟩:=W.app (K':=K5) (w':=(w.1,w.1.ail c me w.2.1,w.2.2)) (by
  have:=W5.res;rw [W.len] at this;exact this)
 refine⟨K5,g',aX rfl rfl (an2 _ _ _ _ ?_),W'⟩;simp only [Nat.reduceAdd,xq_,ajs,l1,l2,l3,l4,e1,e2,d1]
end
end
end Go.Proofs.YtmdbbfoefdjgoaaGreat
