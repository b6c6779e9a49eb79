/-
  Own work: an interpreter over named blocks, its soundness, and what the functions of this seat compute (part 9 of 12).
  Conditions: those of the statement alone.
-/
import Derived.Shelf.SlGeneric
import Derived.Ground.SlgmProg
import Derived.Ground.GgzProg
import Derived.Shelf.SortM.SortNone
import Derived.Shelf.SortM.Plain
import Derived.Shelf.SlIterI.Nil
import Derived.Test.YtljogojaihgdlaaGreatProg
import Derived.KernelRfl
import Derived.Test.YtljogojaihgdlaaGreatXh
set_option linter.all false
set_option linter.unusedSectionVars false
set_option linter.unusedVariables false
set_option linter.unusedSimpArgs false
namespace Go.Proofs
open Go.Shelf
def Tryz.sortedA_ren:Go.Shelf.Ren:=⟨fun|6=>163|8=>184|9=>185|11=>193|13=>195|12=>194|23=>205|24=>206|14=>196|15=>197|16=>198|17=>199|18=>200|19=>201|20=>202|21=>203|22=>204|25=>207|26=>208|27=>209|28=>210|29=>211|30=>212|31=>213|n=>n,fun|26=>3|28=>254|24=>22|0=>0|3=>3|37=>223|48=>234|50=>268|4=>4|40=>293|39=>292|45=>170|5=>5|9=>9|51=>300|55=>304|57=>306|58=>130|33=>118|n=>n,fun|n=>n⟩
def Tryz.sortedA:Go.Proofs.SlLaysZI.n6 Tryz.prog Tryz.sortedA_ren:={
 mixed:=by kernel_rfl
 f6:=⟨Tryz.f163.name,by decide,Tryz.func163.trans (congrArg some (by kernel_rfl))⟩
 f8:=⟨Tryz.f184.name,by decide,Tryz.func184.trans (congrArg some (by kernel_rfl))⟩
 f11:=⟨Tryz.f193.name,by decide,Tryz.func193.trans (congrArg some (by kernel_rfl))⟩
 t0:=Tryz.underlying0
 a0:=Tryz.isAgg0
 z0:=Tryz.sizeOf0
 v0:=Tryz.zeroValue0
 t24:=Tryz.underlying22
 a24:=Tryz.isAgg22
 z24:=Tryz.sizeOf22
 v24:=Tryz.zeroValue22
 t26:=Tryz.underlying3
 a26:=Tryz.isAgg3
 z26:=Tryz.sizeOf3
 v26:=Tryz.zeroValue3
 t28:=Tryz.underlying254
 a28:=Tryz.isAgg254
 z28:=Tryz.sizeOf254
 v28:=Tryz.zeroValue254
 i26:=by kernel_rfl }
def Tryz.keysA_ren:Go.Shelf.Ren:=⟨fun|7=>164|10=>186|n=>n,fun|23=>201|26=>3|3=>256|28=>254|0=>0|27=>253|33=>118|4=>4|n=>n,fun|n=>n⟩
def Tryz.keysA:Go.Proofs.SlLaysZI.n7 Tryz.prog Tryz.keysA_ren:={
 mixed:=by kernel_rfl
 f7:=⟨Tryz.f164.name,by decide,Tryz.func164.trans (congrArg some (by kernel_rfl))⟩
 f10:=⟨Tryz.f186.name,by decide,Tryz.func186.trans (congrArg some (by kernel_rfl))⟩
 t0:=Tryz.underlying0
 a0:=Tryz.isAgg0
 z0:=Tryz.sizeOf0
 v0:=Tryz.zeroValue0
 t4:=Tryz.underlying4
 a4:=Tryz.isAgg4
 z4:=Tryz.sizeOf4
 v4:=Tryz.zeroValue4
 t23:=Tryz.underlying201
 a23:=Tryz.isAgg201
 z23:=Tryz.sizeOf201
 v23:=Tryz.zeroValue201
 t26:=Tryz.underlying3
 a26:=Tryz.isAgg3
 z26:=Tryz.sizeOf3
 v26:=Tryz.zeroValue3
 t27:=Tryz.underlying253
 a27:=Tryz.isAgg253
 z27:=Tryz.sizeOf253
 v27:=Tryz.zeroValue253
 t28:=Tryz.underlying254
 a28:=Tryz.isAgg254
 z28:=Tryz.sizeOf254
 v28:=Tryz.zeroValue254
 t33:=Tryz.underlying118
 a33:=Tryz.isAgg118
 z33:=Tryz.sizeOf118
 v33:=Tryz.zeroValue118 }
def Tryz.sortA_ren:Go.Shelf.Ren:=⟨fun|5=>185|8=>195|7=>194|19=>205|20=>206|10=>196|11=>197|12=>198|13=>199|14=>200|15=>201|16=>202|17=>203|18=>204|30=>207|31=>208|32=>209|33=>210|34=>211|35=>212|40=>213|n=>n,fun|23=>22|25=>3|3=>3|32=>223|22=>22|0=>0|44=>234|46=>268|4=>4|36=>293|35=>292|41=>170|5=>5|9=>9|53=>300|57=>304|63=>306|64=>130|n=>n,fun|n=>n⟩
def Tryz.sortA:Go.Proofs.SlLaysM.n5 Tryz.prog Tryz.sortA_ren:={
 mixed:=by kernel_rfl
 f5:=⟨Tryz.f185.name,by decide,Tryz.func185.trans (congrArg some (by kernel_rfl))⟩
 f7:=⟨Tryz.f194.name,by decide,Tryz.func194.trans (congrArg some (by kernel_rfl))⟩
 f8:=Tryz.func195.trans (congrArg some (by kernel_rfl))
 f10:=⟨Tryz.f196.name,by decide,Tryz.func196.trans (congrArg some (by kernel_rfl))⟩
 f11:=⟨Tryz.f197.name,by decide,Tryz.func197.trans (congrArg some (by kernel_rfl))⟩
 f12:=⟨Tryz.f198.name,by decide,Tryz.func198.trans (congrArg some (by kernel_rfl))⟩
 f13:=⟨Tryz.f199.name,by decide,Tryz.func199.trans (congrArg some (by kernel_rfl))⟩
 f14:=⟨Tryz.f200.name,by decide,Tryz.func200.trans (congrArg some (by kernel_rfl))⟩
 f15:=⟨Tryz.f201.name,by decide,Tryz.func201.trans (congrArg some (by kernel_rfl))⟩
 f16:=⟨Tryz.f202.name,by decide,Tryz.func202.trans (congrArg some (by kernel_rfl))⟩
 f17:=⟨Tryz.f203.name,by decide,Tryz.func203.trans (congrArg some (by kernel_rfl))⟩
 f18:=⟨Tryz.f204.name,by decide,Tryz.func204.trans (congrArg some (by kernel_rfl))⟩
 f19:=Tryz.func205.trans (congrArg some (by kernel_rfl))
 f20:=Tryz.func206.trans (congrArg some (by kernel_rfl))
 f30:=⟨Tryz.f207.name,by decide,Tryz.func207.trans (congrArg some (by kernel_rfl))⟩
 f31:=Tryz.func208.trans (congrArg some (by kernel_rfl))
 f32:=Tryz.func209.trans (congrArg some (by kernel_rfl))
 f33:=⟨Tryz.f210.name,by decide,Tryz.func210.trans (congrArg some (by kernel_rfl))⟩
 f34:=⟨Tryz.f211.name,by decide,Tryz.func211.trans (congrArg some (by kernel_rfl))⟩
 f35:=⟨Tryz.f212.name,by decide,Tryz.func212.trans (congrArg some (by kernel_rfl))⟩
 f40:=⟨Tryz.f213.name,by decide,Tryz.func213.trans (congrArg some (by kernel_rfl))⟩
 t0:=Tryz.underlying0
 a0:=Tryz.isAgg0
 z0:=Tryz.sizeOf0
 v0:=Tryz.zeroValue0
 t3:=Tryz.underlying3
 a3:=Tryz.isAgg3
 z3:=Tryz.sizeOf3
 v3:=Tryz.zeroValue3
 t4:=Tryz.underlying4
 a4:=Tryz.isAgg4
 z4:=Tryz.sizeOf4
 v4:=Tryz.zeroValue4
 t5:=Tryz.underlying5
 a5:=Tryz.isAgg5
 z5:=Tryz.sizeOf5
 v5:=Tryz.zeroValue5
 t9:=Tryz.underlying9
 a9:=Tryz.isAgg9
 z9:=Tryz.sizeOf9
 v9:=Tryz.zeroValue9
 t22:=Tryz.underlying22
 a22:=Tryz.isAgg22
 z22:=Tryz.sizeOf22
 v22:=Tryz.zeroValue22
 t23:=Tryz.underlying22
 a23:=Tryz.isAgg22
 z23:=Tryz.sizeOf22
 v23:=Tryz.zeroValue22
 t25:=Tryz.underlying3
 a25:=Tryz.isAgg3
 z25:=Tryz.sizeOf3
 v25:=Tryz.zeroValue3
 t32:=Tryz.underlying223
 a32:=Tryz.isAgg223
 z32:=Tryz.sizeOf223
 v32:=Tryz.zeroValue223
 t35:=Tryz.underlying292
 a35:=Tryz.isAgg292
 z35:=Tryz.sizeOf292
 v35:=Tryz.zeroValue292
 t36:=Tryz.underlying293
 a36:=Tryz.isAgg293
 z36:=Tryz.sizeOf293
 v36:=Tryz.zeroValue293
 t41:=Tryz.underlying170
 a41:=Tryz.isAgg170
 z41:=Tryz.sizeOf170
 v41:=Tryz.zeroValue170
 t44:=Tryz.underlying234
 a44:=Tryz.isAgg234
 z44:=Tryz.sizeOf234
 v44:=Tryz.zeroValue234
 t46:=Tryz.underlying268
 a46:=Tryz.isAgg268
 z46:=Tryz.sizeOf268
 v46:=Tryz.zeroValue268
 t53:=Tryz.underlying300
 a53:=Tryz.isAgg300
 z53:=Tryz.sizeOf300
 v53:=Tryz.zeroValue300
 t57:=Tryz.underlying304
 a57:=Tryz.isAgg304
 z57:=Tryz.sizeOf304
 v57:=Tryz.zeroValue304
 t63:=Tryz.underlying306
 a63:=Tryz.isAgg306
 z63:=Tryz.sizeOf306
 v63:=Tryz.zeroValue306
 t64:=Tryz.underlying130
 a64:=Tryz.isAgg130
 z64:=Tryz.sizeOf130
 v64:=Tryz.zeroValue130 }
end Go.Proofs
namespace Go.Proofs.YtljogojaihgdlaaGreat
noncomputable section
open Go.RowKit Go.Maps Go.Sort Go.Shelf
def ajP(m:Nat):AnyZI.SortsIn Tryz.prog Tryz.sortedA_ren Fence.wide m:=
 ⟨λblk off b e W g d hsz=>callsIn_wide.2 (AnyM.slices_Sort_int Tryz.sortA blk off b e W g d hsz),
  λp b W=>callsIn_wide.2 (AnyM.slices_Sort_int_none Tryz.sortA p b W)⟩
abbrev ajQ:Value->Option (DataW Unit × List MemPlace):=λ_=>some (.lit (.bool true),[])
def apc {ρ:Ren}{H:ah}{w w':World}(R:Rel ρ H w)(hb:Below w.heap.size w w'){v:Value}{zs:List Int}{e:TypeId}(h0:zs≠[])(h:w'.ownsRow w.heap.size e 1 v zs.length (zs.map encZ)):
  RV ρ H.gen w' (.vs zs.length 1 (zs.map λn=>.s (.int .i64 n))) v:=by
 obtain⟨_,⟨rfl,d⟩|⟨g,i,cur,rfl,d,k,p,y,z,q⟩⟩:=h
 ·exact absurd (zat d) h0
 ·simp only [RV];refine⟨g,0,i,rfl,p,O,(zbE.1 k).1,QG R d,?_⟩;have key:∀(l:List Int) (o:Nat),(∀j,j<l.length->w'.cell? ⟨g,o+j,none⟩=(l[j]?).map encZ)->RVc ρ H.gen w' (l.map λn=>.s (.int .i64 n)) g o:=by
   intro l
   induction l with
   |nil=>intro o _;simp only [zbJ,RVc]
   |cons a l u=>
    intro o hc;simp only [zay,RVc];refine⟨⟨encZ a,by have:=hc 0 O;simpa using this,by simp only [RV]⟩,u (o+1) λj m=>?_⟩;have:=hc (j+1) (by simp only [zam];omega);rw [show o+(j+1)=o+1+j by omega] at this
    simpa using this
  refine key zs 0 λj m=>?_;rw [za5,zbO] at*;have b:cur.toList[j]?=(zs.map encZ)[j]?:=by rw [<-q,zaC,if_pos m]
  rw [zaH] at b;unfold World.cell?;simp only [k,<-b,zcW,zaK,zai,if_false]
def UM:VU 163 (CY Ep KU):=by
 have key:∀k H v H',CY Ep KU k H=some (v,H')->H'=H/\∃f r g,k=[.fn (.func f) [] [.ref r g 0]]/\f≠0/\
   ((∃o m d,H.get r=.blk g o [.mp m]/\o<iw/\H.get m=.map .i64 d/\f∈Ep/\(d.map (·.1)).Nodup/\(d.all λe=>(Lit.int .i64 e.1).wf)=true/\d.length<=1000000/\v=aae (d.map (·.1)))∨
    (∃o,H.get r=.blk g o [.s (.slice none 0 0)]/\o<iw/\f∈KU/\v=alS)):=by
  intro k H v H' h;unfold CY at h;split at h
  ·rename_i f r g;split at h
   ·rename_i g' o m q;split at h
    ·rename_i d hm;split at h
     ·rename_i hc;obtain⟨rfl,F,G,L,h4,h5,h6⟩:=hc;cases h;exact⟨rfl,f,r,_,rfl,G,.inl ⟨o,m,d,q,F,hm,L,h4,h5,h6,rfl⟩⟩
     ·cases h
    ·cases h
   ·rename_i g' o q;split at h
    ·rename_i hc;obtain⟨rfl,F,G,L⟩:=hc;cases h;exact⟨rfl,f,r,_,rfl,G,.inr ⟨o,q,F,L,rfl⟩⟩
    ·cases h
   ·cases h
  ·cases h
 refine⟨KN λk H v H' h ρ w lT R ha=>?_,λk H v H' h=>?_⟩;rotate_left
 ·rw [(key _ _ _ _ h).1];exact Keeps.refl H
 ·obtain⟨rfl,f,r,g,rfl,M,hh⟩:=key _ _ _ _ h;obtain⟨cf,rfl,F⟩:=Ue ha;simp only [RV] at F;obtain⟨fa,fc,rfl,G,L⟩:=F;have al:fa=#[]:=by simp only [RVs] at G;exact Array.ext' (by simpa using G)
  subst al;obtain⟨cp,rfl,h4⟩:=Ue L;simp only [RV] at h4;obtain⟨a,rfl,h5,h6⟩:=h4;rcases hh with⟨o,m,d,q,D,hm,hk,am,ao,aE,rfl⟩|⟨o,q,D,hv,rfl⟩
  ·have hg:H'.gen r=g:=by simp [ah.gen,q,gG.gen]
   obtain⟨b,sh,h7,rfl⟩:=h6 hg;have Q:=R.obj r b sh h7;simp only [zq,q] at Q;obtain⟨cs,e,o1,o2,T,o4⟩:=Q;obtain⟨o5,rfl,o7⟩:=o4.1 D;simp only [RVc] at T;obtain⟨⟨mv,o8,W⟩,_⟩:=T;simp only [RV] at W;obtain⟨bm,rfl,ap⟩:=W;have aq:=ap (by simp [ah.gen,hm,gG.gen]);have X:=R.obj m bm 0 aq;simp only [zq,hm] at X;obtain⟨i,dh,m1,_,m3,m4⟩:=X;have j:i.toList.map (λx=>x.key)=(d.map (·.1)).map encZ:=by
    have:∀(d:List (Int × AV)) (l:List MapEntry),RVm ρ H'.gen w .i64 d l->l.map (λx=>x.key)=(d.map (·.1)).map encZ:=by
     intro d
     induction d with
     |nil=>intro l hl;simp only [RVm] at hl;subst hl;rfl
     |cons x d ih=>
      intro l hl;obtain⟨n,y⟩:=x;simp only [RVm] at hl;obtain⟨e,ar,rfl,k1,_,k3⟩:=hl;simp only [zay,k1,ih ar k3]
    exact this d _ m3
   have hsz:i.size=d.length:=by
    have:=congrArg List.length j
    simpa using this
   have aa:∀x∈i.toList,∃n,n∈d.map (·.1)/\x.key=encZ n/\Go.WideElems.rd Tryz.prog 3 ajQ x=some (.int .i64 n,.lit (.bool true)):=by
    intro x hx;have aw:x.key∈(d.map (·.1)).map encZ:=by rw [<-j];exact zaJ.2 ⟨x,hx,rfl⟩
    obtain⟨n,hn,u⟩:=zaJ.1 aw;refine⟨n,hn,u.symm,?_⟩;have hw:(Lit.int .i64 n).wf=true:=by
     obtain⟨e,he,rfl⟩:=zaJ.1 hn;exact za2.1 ao e he
    have ax:keyOf Tryz.prog 3 x.key=some (.int .i64 n):=by
     rw [<-u];simp [keyOf,mapKey,Tryz.underlying3,hw]
    exact Go.WideElems.rd_mk (R:=ajQ) (key:=x.key) (val:=x.val) (born:=x.born) (yv:=(.lit (.bool true),[])) ax rfl
   have ay:(i.toList.map (λx=>x.key)).Nodup:=by
    rw [j];exact zcx.2 (am.imp λaz he=>az (encZ_inj he))
   let K:DataW Unit:=.map ((i.toList.map (Go.WideElems.rg Tryz.prog 3 ajQ)).foldr DataW.insert []);have ab:w.ownsMap Tryz.prog 3 ajQ bm i.size K:=⟨i,dh,m1,⟨by rw [hsz];unfold maxLen;omega,⟨m4.1,m4.2,ay⟩,λx hx=>by
    obtain⟨n,_,_,h⟩:=aa x hx;exact⟨_,h⟩⟩,zac _,rfl⟩
   have aD:(intKeys K).Perm (d.map (·.1)):=by
    have p1:((i.toList.map (Go.WideElems.rg Tryz.prog 3 ajQ)).foldr DataW.insert []).Perm (i.toList.map (Go.WideElems.rg Tryz.prog 3 ajQ)):=Go.WideShapes.sorted_perm _;have p2:=p1.map λp=>Go.intOf p.1;refine p2.trans ?_;have:(i.toList.map (Go.WideElems.rg Tryz.prog 3 ajQ)).map (λp=>Go.intOf p.1)=d.map (·.1):=by
     rw [zc0];have ad:∀a b:List Int,a.map encZ=b.map encZ->a=b:=λa b h=>by
      have:=congrArg (List.map λv:Value=>match v with|.int _ n=>n|_=>0) h
      simpa [zc0,Function.comp_def,encZ] using this
     refine ad _ _ ?_;rw [<-j,zc0];refine zbs λx hx=>?_;obtain⟨n,_,u,q⟩:=aa x hx;simp only [Function.comp_apply,Go.WideElems.rg_of q,Go.intOf,u]
    rw [this]
   have ae:Maps.size K=d.length:=by
    show((i.toList.map _).foldr DataW.insert []).length=_;rw [(Go.WideShapes.sorted_perm _).length_eq,zaE,Array.length_toList,hsz]
   have af:b<w.heap.size:=(zbE.1 o1).1;obtain rfl:f=186:=by
    simp only [Ep,zak,zaA,or_false] at hk;rcases hk with hk|hk
    ·exact hk
    ·exact absurd hk M
   have ag:SeqGives Fence.wide 2 Tryz.prog 186 #[.pointer (some ⟨b,0,none⟩)] encZ (λss=>ss.Perm (intKeys K)) (Maps.size K) w:=
    AnyZI.keys_gives (ρ:=Tryz.keysA_ren) { Tryz.keysA with } Fence.wide _ trivial rfl V b bm _ K w af o8 ab
   have cS:=AnyZI.sorted_in Tryz.sortedA Fence.wide 5 trivial trivial trivial trivial rfl V (ajP _) (enters_of Tryz.func185 J rfl) 186 #[.pointer (some ⟨b,0,none⟩)] trivial (enters_of Tryz.func186 J rfl) _ _ (by rw [ae];unfold maxLen;omega) (by rw [ae];omega) _ ag;refine((callsIn_wide (n:=5)).1 cS).mono λe w' ⟨v,ss,he,hp,C,ai,hB⟩=>?_;obtain⟨r1,r2⟩:=Il R hB;have z:=hp.trans aD;refine⟨v,ρ,he,r1,?_,r2⟩;unfold aae;split
   ·rename_i hz;rw [hz] at z;have:=ai.2 z.eq_nil;subst this;simp only [alS,RV]
   ·rename_i hz;have E:ss.length=(d.map (·.1)).length:=z.length_eq;rw [mergeSort_of_perm_i z] at C;have A:((d.map (·.1)).mergeSort leI).length=(d.map (·.1)).length:=List.length_mergeSort _;have:=apc R hB (zs:=(d.map (·.1)).mergeSort leI) (λh=>hz (by
     rw [h] at A;exact zat A.symm)) (by rw [A,<-E];exact C)
    rw [A] at this;exact this
  ·have hg:H'.gen r=g:=by simp [ah.gen,q,gG.gen]
   obtain⟨b,sh,h7,rfl⟩:=h6 hg;have Q:=R.obj r b sh h7;simp only [zq,q] at Q;obtain⟨cs,e,o1,o2,T,o4⟩:=Q;obtain⟨o5,rfl,o7⟩:=o4.1 D;simp only [RVc] at T;obtain⟨⟨mv,o8,W⟩,_⟩:=T;simp only [RV] at W;subst W;have af:b<w.heap.size:=(zbE.1 o1).1;simp only [KU,zak,zaA,or_false] at hv;exact absurd hv M
open Go.RowKit
def ajR:∀x∈aiM,VU x.1 x.2:=by
 unfold aiM;refine zci.2 ⟨UM,?_⟩;refine zci.2 ⟨aiN _,?_⟩;refine zci.2 ⟨UL,?_⟩;refine zci.2 ⟨aiN _,?_⟩;refine zci.2 ⟨aiN _,?_⟩;refine zci.2 ⟨⟨λf b H v H' h=>?_,λb H v H' h=>(by cases h)⟩,λx d=>(by cases d)⟩;simp only at h;split at h <;> cases h
def LC {α:Type}{f:Nat}{p:α}:∀{l:List (Nat × α)},l.lookup f=some p->(f,p)∈l
 |[],h=>by cases h
 |(k,q)::l,h=>by
  rw [List.lookup_cons] at h;split at h
  ·rename_i e;cases h;rw [beq_iff_eq] at e;subst e;simp
  ·exact za9 _ (LC h)
def apd:XM Tryz.prog pol:=λf p h=>ajR (f,p) (LC h)
def WZ:kW cl:=(callω_ok (P:=Tryz.prog) apd J).2
open Go.ChangeShapes Go.WideShapes Go.ChangeAt Go.RowKit
def asI:XM Tryz.prog pol:=
 apd
def aur {w:World}:adg ρ0 w:=⟨λb hb=>(by cases hb),trivial⟩
def asJ:ownKnob Tryz.prog.godebug=none:=J
def ape:laidOutB Tryz.prog=true:=J
def ajS:Tryz.prog.follows .mixedOrders=true:=J
def ae7:Tryz.prog.cellTypes Tryz.prog.depth 24=some [3,3,3,3,3,3,3,22,22,22,22,22]:=J
set_option maxRecDepth 100000 in
theorem apf {H:Type}{enc:TypeId × Value->H}{W:World}{r:Reach}{g base:Nat}{i:Nat->Bool}{b:Bool}{v:Value}{d:DataW H}{ps:List MemPlace}(e:Value.okWide Tryz.prog W r g 24 v)(h:DataW.Trod enc Tryz.prog W base i b 24 v d ps):
  ∃(s:lu) (zi zw zk za zv:List Int),RV ρ0 G0 W (.agg s.cells) v/\s.Ok zi zw zk za zv:=
 XU Tryz.underlying24 ae7 J J  Tryz.underlying3 J Tryz.underlying22 J Tryz.underlying3 J e h
set_option maxRecDepth 100000 in
theorem apg {H:Type}{enc:TypeId × Value->H}{W:World}{r:Reach}{g base:Nat}{i:Nat->Bool}{b:Bool}{v:Value}{d:DataW H}{ps:List MemPlace}(e:Value.okWide Tryz.prog W r g 22 v)(h:DataW.Trod enc Tryz.prog W base i b 22 v d ps):
  ∃(x:AV) (zs:List Int),RV ρ0 G0 W x v/\AU .i64 x zs:=
 XV Tryz.underlying22 Tryz.underlying3 J e h
def Xa(p:Pkt){d:Nat}:∀x∈p.av,Frz (d+2) x:=λx b=>by
 simp only [Pkt.av,zak,zaA,or_false] at b;rcases b with rfl|rfl|rfl|rfl|rfl|rfl|rfl|rfl|rfl <;> first|exact iy|exact vM
section
variable {b:Nat}{H:ah}{g:bD}{q:Nat}
def ap9(a c:Bool):bi .neq 4 (B a) (B c)=some (B (a !=c)):=by
 rw [aeT];cases a <;> cases c <;> rfl
def aph(G:Good b H g)(hb:H.base<=b){c:Cfg}{dK:Rows}(h:g q=some (EM c dK))(aj aW head:Int)(data:List Int)(T:data.length<1000000000):
  ∃H',cl 188 [.ref q 0 0,I aj,I aW,I head,dat data] H=some (I (iP c dK aj aW head data).2,H')/\Good b H' (upd g q (EM c (iP c dK aj aW head data).1))/\Step b H H':=by
 obtain⟨r,k,W,_⟩:=G.map h (i:=8) rfl;have j:=W (.agg #[.int .i64 0,.int .i64 0,.slice none 0 0]) aj true;rw [yt] at j;have e:H.base<=H.next:=zax hb G.1
 refine kS rfl rfl (aoE _ _ _ _ _ _ _) ?_;cases z:jE dK aj with
 |none=>
  simp only [z,zc8,if_true] at j;have u:iP c dK aj aW head data=(dK,3):=by simp only [iP,z]
  have X:AV.cells (.s (.agg #[.int .i64 0,.int .i64 0,.slice none 0 0]))=[zI,zI,zN]:=rfl;have zn:zN.aP=true:=rfl;rw [u];refine⟨H.new (.blk 0 199 [zI,zI,zN]),?_,by rw [fQ h];exact G.new _,Step.new _ G.1⟩;simp only [Int.reduceNeg,Nat.reduceAdd,aO,xq_,hq_,zf,k,j,X,zn,e,zal]
 |some w=>
  simp only [z,zaj,if_true] at j;let H1:=H.new (.blk 0 199 w.av);have E:Good b H1 g:=G.new _;have o:=E.load h (i:=0) (x:=I c.aF) rfl;have l2:=E.load h (i:=2) (x:=I c.bI) rfl;have K:=λH=>(kZ H data).lnS;have e5:=λH=>kD H data T;by_cases d:aW<0∨2<aW∨head < -1∨c.aF<=head
  ·have u:iP c dK aj aW head data=(dK,1):=by simp only [iP,z];rw [if_pos d]
   rw [u];refine⟨H1,?_,by rw [fQ h];exact E,Step.new _ G.1⟩;simp only [H1] at o l2;by_cases m:aW<0
   ·simp only [Int.reduceNeg,Nat.reduceAdd,aO,xq_,hq_,zf,k,j,e,zae,m];rfl
   ·by_cases p:2<aW
    ·simp only [Int.reduceNeg,Nat.reduceAdd,aO,xq_,hq_,zf,k,j,e,zae,m,p];rfl
    ·by_cases v:head < -1
     ·simp only [Int.reduceNeg,Nat.reduceAdd,aO,xq_,hq_,zf,k,j,e,zae,m,p,v];rfl
     ·have A:c.aF<=head:=V
      simp only [Int.reduceNeg,Nat.reduceAdd,aO,xq_,hq_,zf,k,j,e,zae,m,p,v,o,A];rfl
  ·have m:¬aW<0:=λh=>d (.inl h);have p:¬2<aW:=λh=>d (.inr (.inl h));have v:¬head < -1:=λh=>d (.inr (.inr (.inl h)));have A:¬c.aF<=head:=λh=>d (.inr (.inr (.inr h)));have C:decide (data≠[])=decide ((data.length:Int)≠0):=by
    cases data with
    |nil=>rfl
    |cons a l=>
     have:((a::l).length:Int)≠0:=by simp only [zam];omega
     simp only [this,ne_eq,not_false_eq_true,decide_true];rfl
   by_cases hw:((decide (head=-1) !=decide (aW=0)) || (decide (data≠[]) && decide ((data.length:Int)≠c.bI)))=true
   ·have u:iP c dK aj aW head data=(dK,1):=by simp only [iP,z];rw [if_neg d,if_pos hw]
    rw [u];refine⟨H1,?_,by rw [fQ h];exact E,Step.new _ G.1⟩;simp only [H1] at o l2;rw [C] at hw;cases y:(decide (head=-1) !=decide (aW=0)) with
    |true=>
     simp only [Int.reduceNeg,Nat.reduceAdd,aO,xq_,hq_,zf,k,j,e,zae,m,p,v,o,A,ap9,y];rfl
    |false=>
     rw [y,zbI,zah] at hw;have w1:¬(data.length:Int)=0:=of_decide_eq_true hw.1;have F:¬(data.length:Int)=c.bI:=of_decide_eq_true hw.2;simp only [Int.reduceNeg,Nat.reduceAdd,Nat.reduceLeDiff,aO,xq_,hq_,zf,k,j,e,zae,zal,m,p,v,o,A,ap9,y,K,w1,l2,F];rfl
   ·have u:iP c dK aj aW head data=(mV dK aj ⟨aW,head,if data=[] then w.data else data⟩,0):=by simp only [iP,z];rw [if_neg d,if_neg hw]
    rw [u];rw [C] at hw;have y:(decide (head=-1) !=decide (aW=0))=false:=by cases h1:(decide (head=-1) !=decide (aW=0)) <;> simp_all
    rw [y,zbI] at hw;let L:Row:=⟨aW,head,if data=[] then w.data else data⟩
    let M:=H.new (.blk 0 199 L.av);have G2:Good b M g:=G.new _;obtain⟨r',k1,_,_,k2⟩:=G2.map h (i:=8) rfl;obtain⟨H',D,Q,m3,m4⟩:=(k2 hb).1 aj (.agg L.av);refine⟨H',?_,?_,(Step.new _ G.1).trans m3⟩
    ·simp only [H1,Row.av] at o l2;simp only [M,L,Row.av] at k1 D;by_cases hd:data=[]
     ·subst hd;simp only [if_true] at k1 D;have z1:((([]:List Int).length:Nat):Int)=0:=rfl;have z2:(((0:Nat)):Int)=0:=rfl;simp only [Int.reduceLT,Int.reduceNeg,Nat.reduceAdd,aO,xq_,hq_,zf,FY,k,j,e,zae,m,p,v,o,A,ap9,y,K,z2,Row.av,k1,D]
     ·have w1:¬(data.length:Int)=0:=λh=>hd (zat V);have R:(0:Int)<data.length:=V
      have F:(data.length:Int)=c.bI:=by
       rw [decide_eq_true (show(data.length:Int)≠0 from w1),zaN] at hw;exact Classical.byContradiction λh=>hw (decide_eq_true h)
      simp only [hd,if_false] at k1 D;rw [F] at w1 R;simp only [Int.reduceNeg,Nat.reduceAdd,aO,xq_,hq_,zf,FY,k,j,e,zae,zal,m,p,v,o,A,ap9,y,K,F,l2,w1,R,e5,Row.av,k1,D]
    ·rw [Ik (λr:Row=>AV.agg r.av)] at Q;exact Q
end
def Yt {c:Cfg}{dK:Rows}{aj aW head:Int}{data:List Int}(h:(iP c dK aj aW head data).2≠0):(iP c dK aj aW head data).1=dK:=by
 unfold iP at h ⊢;cases d:jE dK aj with
 |none=>rfl
 |some w=>
  rw [d] at h;simp only at h ⊢;split at h
  ·rename_i b;rw [if_pos b]
  ·rename_i b;rw [if_neg b];split at h
   ·rename_i e;rw [if_pos e]
   ·exact absurd rfl h
section
variable {b:Nat}{H:ah}{g:bD}{q d tt:Nat}{c:Cfg}{me:Int}{h:Home}
def oL.sub {g':bD}(N:oL g q d tt c me h)(hs:sG g g'):oL g' q d tt c me h:=⟨hs _ _ N.1,hs _ _ N.2.1,hs _ _ N.2.2⟩
def LD(G:Good b H g)(N:oL g q d tt c me h)(hd:∀e∈h.dK,e.2.data.length<1000000000)(aj who id:Int):
  cl 126 [.ref q 0 0,I aj,I who,I id] H=some (.agg (granted h.dK me aj who id).av,H):=by
 refine dw rfl rfl (anG _ _ _ _ _ _) ?_ (oz (Xa _));have j:=G.guard.new (.blk 0 112 [zI,zI,zI,zI,zI,zI,zI,zB,zN]);have l1:=j.load N.1 (i:=0) (x:=.ref d 0 0) rfl;have p:=aoV j N.2.1 hd aj;have u:=j.new (.blk 0 199 (jr h.dK aj).av);have l2:=u.load N.1 (i:=10) (x:=I me) rfl;have k:(jr h.dK aj).av[0]?=some (I (jr h.dK aj).aW):=rfl;have m:(jr h.dK aj).av[1]?=some (I (jr h.dK aj).head):=rfl;have o:(jr h.dK aj).av[2]?=some (dat (jr h.dK aj).data):=rfl;simp only [Nat.reduceAdd,Nat.reduceLeDiff,aO,xq_,hq_,agY,l1,p,l2,k,m,o,qZ,jC,gu,Hw,granted,Pkt.av]
def lV(g:bD)(d tt:Nat)(c:Cfg)(h:Home):bD:=upd (upd g d (EM c h.dK)) tt (iV h.aT)
def oL.ne(N:oL g q d tt c me h):q≠d/\q≠tt/\d≠tt:=by
 refine⟨λe=>?_,λe=>?_,λe=>?_⟩
 ·have i:=N.1;have b:=N.2.1;subst e;rw [i] at b;have:=congrArg List.length (zaX b);simp [EN,EM,Cfg.av] at this
 ·have i:=N.1;have b:=N.2.2;subst e;rw [i] at b;have:=congrArg List.length (zaX b);simp [EN,iV,Cfg.av] at this
 ·have i:=N.2.1;have b:=N.2.2;subst e;rw [i] at b;have:=congrArg List.length (zaX b);simp [EM,iV,Cfg.av] at this
def oL.ajT(N:oL g q d tt c me h)(b:Home):oL (lV g d tt c b) q d tt c me b:=by
 obtain⟨n1,e,i⟩:=N.ne;exact⟨by unfold lV;rw [bn e,bn n1];exact N.1,by unfold lV;rw [bn i,aQ],by unfold lV;rw [aQ]⟩
def F9(N:oL g q d tt c me h):lV g d tt c h=g:=by
 obtain⟨n1,b,e⟩:=N.ne;unfold lV;rw [fQ N.2.1,fQ N.2.2]
def RI {g':bD}(h:sG g g')(b:Home):sG (lV g d tt c b) (lV g' d tt c b):=(h.both d _).both tt _
def zY(N:oL g q d tt c me h)(t:Turns):lV g d tt c { h with aT:=t }=upd g tt (iV t):=by
 unfold lV;rw [fQ N.2.1]
def acd(G:Good b H g)(hb:H.base<=b)(N:oL g q d tt c me h)(p:Pkt)(hl:p.data.length<1000000000):
  ∃H',cl 170 [.ref q 0 0,.agg p.av] H=some (I (h.unlock c p).2,H')/\Good b H' (lV g d tt c (h.unlock c p).1)/\Step b H H':=by
 have hb0:H.base<=H.next:=zax hb G.1
 obtain⟨n1,n2,n3⟩:=N.ne;refine kS rfl rfl (aoq _ _ _ _) ?_;let H1:=H.new (.blk 0 112 p.av);have G1:=G.newObj (ty:=112) (xs:=p.av) (aV p);have S1:sG g (upd g H.next (p.av.map Cell.av)):=(sG.refl g).more (G.isNone (zac _)) _;have N1:=N.sub S1;have l1:=G1.load N1.1 (i:=1) (x:=.ref tt 0 0) rfl;have o1:=Yl G1.guard N1.2.2 p.aj;have p1:=G1.load aQ (i:=1) (x:=I p.src) rfl;have p4:=G1.load aQ (i:=4) (x:=I p.aj) rfl;have p5:=G1.load aQ (i:=5) (x:=I p.ptr) rfl;have p6:=G1.load aQ (i:=6) (x:=I p.aW) rfl;have p7:=G1.load aQ (i:=7) (x:=B p.flag) rfl;have p8:=G1.load aQ (i:=8) (x:=dat p.data) rfl;by_cases ho:h.aT.owner p.aj=p.src;rotate_left
 ·have hp:h.unlock c p=(h,6):=by simp only [Home.unlock];rw [if_pos ho]
  rw [hp,F9 N];refine⟨H1,?_,G1.sub S1,Step.new _ G.1⟩;simp only [Nat.reduceLT,xq_,La,aG (aV p),l1,p4,o1,p1,ho,zal];rfl
 ·have l0:=G1.load N1.1 (i:=0) (x:=.ref d 0 0) rfl;let dd:=if p.flag then p.data else [];obtain⟨H2,s1,s2,s3⟩:=aph G1 (by rw [jD];exact hb) N1.2.1 p.aj p.aW p.ptr dd (by simp only [dd];split <;> first|exact hl|exact(by simp));have hd0:dat ([]:List Int)=zN:=by simp [dat,gQ]
  have fl:∀k:AV->Option (AV × ah),(if p.flag=true then k (dat p.data) else k zN)=k (dat dd):=λk=>by
   simp only [dd];cases p.flag with
   |true=>rfl
   |false=>simp only [zai,if_false,hd0]
  by_cases hz:(iP c h.dK p.aj p.aW p.ptr dd).2=0;rotate_left
  ·have hp:h.unlock c p=(h,(iP c h.dK p.aj p.aW p.ptr dd).2):=by
    simp only [Home.unlock];rw [if_neg (λhn=>hn ho),if_neg hz]
   rw [hp,F9 N];rw [Yt hz,fQ N1.2.1] at s2;refine⟨H2,?_,s2.sub S1,(Step.new _ G.1).trans s3⟩;have hz':¬(iP c h.dK p.aj p.aW p.ptr dd).2=0:=hz;cases hf:p.flag with
   |true=>
    have:dd=p.data:=by simp only [dd,hf,if_true]
    rw [this] at s1 hz' ⊢;rw [hf] at p7;simp only [Nat.reduceLT,xq_,La,yC,aG (aV p),l1,p4,o1,p1,ho,zae,p7,p8,l0,p6,p5,s1,hz',zal]
   |false=>
    have:dd=[]:=by simp only [dd,hf,zai,if_false]
    rw [this,hd0] at s1;rw [this] at hz' ⊢;rw [hf] at p7;simp only [Nat.reduceLT,xq_,La,yC,aG (aV p),l1,p4,o1,p1,ho,zae,p7,p8,l0,p6,p5,s1,hz',zal]
  ·have hp:h.unlock c p=(⟨(iP c h.dK p.aj p.aW p.ptr dd).1,(h.aT.release p.aj p.src).1⟩,(h.aT.release p.aj p.src).2):=by
    simp only [Home.unlock];rw [if_neg (λhn=>hn ho),if_pos hz]
   rw [hp];have hqn:=G.ne N.2.2;have hdn:=G.ne N.2.1;have hhn:=G.ne N.1;have k1:upd (upd g H.next (p.av.map Cell.av)) d (EM c (iP c h.dK p.aj p.aW p.ptr dd).1) H.next=some (p.av.map Cell.av):=by rw [bn hdn.symm,aQ]
   have k2:upd (upd g H.next (p.av.map Cell.av)) d (EM c (iP c h.dK p.aj p.aW p.ptr dd).1) q=some (EN d tt c me):=by rw [bn n1];exact N1.1
   have k3:upd (upd g H.next (p.av.map Cell.av)) d (EM c (iP c h.dK p.aj p.aW p.ptr dd).1) tt=some (iV h.aT):=by rw [bn n3.symm];exact N1.2.2
   have r1:=s2.load k1 (i:=1) (x:=I p.src) rfl;have r4:=s2.load k1 (i:=4) (x:=I p.aj) rfl;have rl:=s2.load k2 (i:=1) (x:=.ref tt 0 0) rfl;obtain⟨H3,t1,t2,t3⟩:=Rz s2 (by rw [s3.base,jD];exact hb) k3 p.aj p.src;refine⟨H3,?_,t2.sub (RI S1 _),((Step.new _ G.1).trans s3).trans t3⟩;rw [hz] at s1;cases hf:p.flag with
   |true=>
    have:dd=p.data:=by simp only [dd,hf,if_true]
    rw [this] at s1;rw [hf] at p7;simp only [Nat.reduceLT,xq_,La,yC,aG (aV p),l1,p4,o1,p1,ho,zae,p7,p8,l0,p6,p5,s1,rl,r1,r4,t1]
   |false=>
    have:dd=[]:=by simp only [dd,hf,zai,if_false]
    rw [this,hd0] at s1;rw [hf] at p7;simp only [Nat.reduceLT,xq_,La,yC,aG (aV p),l1,p4,o1,p1,ho,zae,p7,p8,l0,p6,p5,s1,rl,r1,r4,t1]
end
section
variable {b:Nat}{H:ah}{g:bD}{q d tt:Nat}{c:Cfg}{me:Int}{h:Home}
abbrev zP9:List AV:=[zI,zI,zI,zI,zI,zI,zI,zB,zN]
def Xb(r:Home × Pkt × Bool × Int):AV:=.tup [.agg r.2.1.av,B r.2.2.1,I r.2.2.2]
def ace(G:Good b H g)(hb:H.base<=b)(N:oL g q d tt c me h)(hc:c.ok=true)(hw:(h.aT.wait.map (·.1)).Nodup)(hwl:∀aj,(h.aT.ws aj).length<1000000)(hr:∀e∈h.dK,e.2.data.length<1000000000)(p:Pkt)(hl:p.data.length<1000000000):
  ∃H',cl 129 [.ref q 0 0,.agg p.av] H=some (Xb (h.handle c me p),H')/\Good b H' (lV g d tt c (h.handle c me p).1)/\Step b H H':=by
 have hb0:H.base<=H.next:=zax hb G.1
 obtain⟨n1,n2,n3⟩:=N.ne;refine kS rfl rfl (anJ _ _ _ _) ?_;let H1:=H.new (.blk 0 112 p.av);let H2:=H1.new (.blk 0 112 zP9);have Ga:=G.newObj (ty:=112) (xs:=p.av) (aV p);have G2:=Ga.newObj (ty:=112) (xs:=zP9) rfl;let g2:=upd (upd g H.next (p.av.map Cell.av)) (H.next+1) (zP9.map Cell.av);have e12:(H.new (.blk 0 112 p.av)).next=H.next+1:=fB
 have S2:sG g g2:=((sG.refl g).more (G.isNone (zac _)) _).more (G.isNone (za8 _)) _;have N2:=N.sub S2;have st2:Step b H H2:=(Step.new _ G.1).trans (Step.new _ (G.new _).1);have hp1:g2 H.next=some (p.av.map Cell.av):=by simp only [g2];rw [bn (by omega),aQ]
 have hp2:g2 (H.next+1)=some (zP9.map Cell.av):=aQ;have G2':Good b H2 g2:=G2;have p0:=G2'.load hp1 (i:=0) (x:=I p.aS) rfl;have p1:=G2'.load hp1 (i:=1) (x:=I p.src) rfl;have p2:=G2'.load hp1 (i:=2) (x:=I p.dst) rfl;have p3:=G2'.load hp1 (i:=3) (x:=I p.id) rfl;have p4:=G2'.load hp1 (i:=4) (x:=I p.aj) rfl;have pa:=G2'.loads hp1 (i:=0) (n:=9) (xs:=p.av) rfl rfl (by decide);have l10:=G2'.load N2.1 (i:=10) (x:=I me) rfl;have l2:=G2'.load N2.1 (i:=2) (x:=I c.aF) rfl;have l3:=G2'.load N2.1 (i:=3) (x:=I c.aY) rfl;have la:=G2'.loads N2.1 (i:=2) (n:=8) (xs:=c.av) rfl rfl (by decide);have lt:=G2'.load N2.1 (i:=1) (x:=.ref tt 0 0) rfl;have ck:=BI H2 p;have ho:=IQ H2.guard c hc p.aj;have ez:bd 112 []=some (.agg zP9):=by simp only [xq_,qZ,jC,eu]
 -- the zero packet is laid anew
 have zst:∀{K:ah} {gk:bD},Good b K gk->K.base<=b->gk (H.next+1)=some (zP9.map Cell.av)->∀{y:List AV},y.length=9->y.all AV.aP=true->∃K',st 9 (.ref (H.next+1) 0 0) (.agg y) K=some (bg,K')/\lda 9 (.ref (H.next+1) 0 0) K'=some (.agg y,K')/\Good b K' (upd gk (H.next+1) (y.map Cell.av))/\Step b K K':=by
  intro K gk Gk hk hz y hy ha;obtain⟨K',t1,t2,t3,t4⟩:=Gk.stores hk hz (i:=0) (n:=9) (vs:=y) (by simp) hy ha;have e:qH (zP9.map Cell.av) 0 y=y.map Cell.av:=by
   unfold qH;rw [zaV (by simp [hy])];simp
  rw [e] at t2;exact⟨K',t1,t2.loads aQ (i:=0) (n:=9) (xs:=y) (by rw [zaS,zau (by simp [hy])]) hy (by decide),t2,t3⟩
 obtain⟨Hz,z1,z2,z3,z4⟩:=zst G2' (by simp only [H2,H1,jD];exact hb) hp2 (y:=zP9) rfl rfl;have Sz:∀{gk:bD} {y:List Cell},sG gk (upd gk (H.next+1) y)->True:=λ_=>trivial;have zg:Good b Hz g:=z3.sub λq' cs h=>by
  have hne:q'≠H.next+1:=λe=>by
   have:=G.lt h;omega
  rw [bn hne];exact S2 _ _ h
 simp only [H2,H1] at p0 p1 p2 p3 p4 pa l10 l2 l3 la lt ck ho z1 z2;have bad:∀e:Int,h.handle c me p=(h,.zero,false,e)->∀H',H'=Hz->Good b H' (lV g d tt c (h.handle c me p).1)/\Step b H H':=λe he H' hH=>by
  rw [he,F9 N,hH];exact⟨zg,st2.trans z4⟩
 by_cases h1:(!(p.ok && decide (p.dst=me) && decide (p.src<c.aF)) || (decide (p.aS≠1) && decide (p.aS≠2)))=true
 ·have hp:h.handle c me p=(h,.zero,false,1):=by simp only [Home.handle];rw [if_pos h1]
  refine⟨Hz,?_,bad 1 hp Hz rfl⟩;rw [hp];cases hok:p.ok with
  |false=>
   rw [hok] at ck;simp only [Nat.reduceLT,Int.reduceEq,xq_,uG,aG (aV p),pa,ck,zal,ez,z1,z2,Xb,fP]
  |true=>
   rw [hok] at ck h1;by_cases hds:p.dst=me
   ·by_cases hsr:p.src<c.aF
    ·simp only [hds,hsr,decide_true,zcj,zae,zbI,zah,decide_eq_true_eq] at h1;have k1:=h1.1;have k2:=h1.2;simp only [ne_eq] at k1 k2;simp only [Nat.reduceLT,xq_,uG,aG (aV p),pa,ck,p2,l10,hds,p1,l2,hsr,zae,zal,p0,k1,k2,ez,z1,z2,Xb,fP]
    ·simp only [Nat.reduceLT,xq_,uG,aG (aV p),pa,ck,p2,l10,hds,p1,l2,hsr,zal,ez,z1,z2,Xb,fP]
   ·simp only [Nat.reduceLT,xq_,uG,aG (aV p),pa,ck,p2,l10,hds,zal,ez,z1,z2,Xb,fP]
 ·have hcond:p.ok=true/\p.dst=me/\p.src<c.aF/\(p.aS=1∨p.aS=2):=by
   simp only [zbk,za7,zc1,decide_eq_false_iff_not,zah,decide_eq_true_eq,not_or,not_and,Classical.not_not] at h1;obtain⟨⟨⟨a1,a2⟩,a3⟩,a4⟩:=h1;refine⟨by simpa using a1,a2,a3,?_⟩;by_cases hk:p.aS=1
   ·exact .inl hk
   ·exact .inr (a4 hk)
  obtain⟨hok,hds,hsr,hkind⟩:=hcond;rw [hok] at ck;have hk12:(p.aS=1/\True)∨(¬p.aS=1/\p.aS=2):=by
   rcases hkind with hk|hk
   ·exact .inl ⟨hk,trivial⟩
   ·exact .inr ⟨by omega,hk⟩
  by_cases h2:c.bf p.aj≠me∨c.aY<=p.aj
  ·have hp:h.handle c me p=(h,.zero,false,3):=by simp only [Home.handle];rw [if_neg h1,if_pos h2]
   refine⟨Hz,?_,bad 3 hp Hz rfl⟩;rw [hp];rcases hk12 with⟨hk,_⟩|⟨hk0,hk⟩
   ·by_cases hh:c.bf p.aj=me
    ·have hl2:c.aY<=p.aj:=h2.resolve_left (λh=>h hh);simp only [Nat.reduceLT,Nat.reduceAdd,xq_,uG,aG (aV p),pa,ck,p2,l10,hds,p1,l2,hsr,zae,p0,hk,la,p4,ho,hh,l3,hl2,ez,z1,z2,Xb,fP]
    ·simp only [Nat.reduceLT,xq_,uG,aG (aV p),pa,ck,p2,l10,hds,p1,l2,hsr,zae,zal,p0,hk,la,p4,ho,hh,ez,z1,z2,Xb,fP]
   ·by_cases hh:c.bf p.aj=me
    ·have hl2:c.aY<=p.aj:=h2.resolve_left (λh=>h hh);simp only [Nat.reduceLT,Int.reduceEq,Nat.reduceAdd,xq_,uG,aG (aV p),pa,ck,p2,l10,hds,p1,l2,hsr,zae,zal,p0,hk,la,p4,ho,hh,l3,hl2,ez,z1,z2,Xb,fP]
    ·simp only [Nat.reduceLT,Int.reduceEq,xq_,uG,aG (aV p),pa,ck,p2,l10,hds,p1,l2,hsr,zae,zal,p0,hk,la,p4,ho,hh,ez,z1,z2,Xb,fP]
  ·have hh:c.bf p.aj=me:=Classical.byContradiction λh=>h2 (.inl h);have hl2:¬c.aY<=p.aj:=λh=>h2 (.inr h);rcases hk12 with⟨hk,_⟩|⟨hk0,hk⟩
   ·obtain⟨K1,a1,a2,a3⟩:=aeZ G2' (by simp only [H2,H1,jD];exact hb) N2.2.2 hw p.aj p.src p.id (hwl p.aj);have NK:=N2.ajT { h with aT:=(h.aT.ask p.aj p.src p.id).1 };rw [zY N2] at NK;have hqt:tt≠H.next:=G.ne N.2.2
    have apj:tt≠H.next+1:=by have:=G.lt N.2.2;omega
    have k1:upd g2 tt (iV (h.aT.ask p.aj p.src p.id).1) H.next=some (p.av.map Cell.av):=by rw [bn hqt.symm];exact hp1
    have k2:upd g2 tt (iV (h.aT.ask p.aj p.src p.id).1) (H.next+1)=some (zP9.map Cell.av):=by rw [bn apj.symm];exact hp2
    have hbK:K1.base<=b:=by rw [a3.base];simp only [H2,H1,jD];exact hb
    have fin:∀{K2:ah} {y:List Cell},Good b K2 (upd (upd g2 tt (iV (h.aT.ask p.aj p.src p.id).1)) (H.next+1) y)->Good b K2 (lV g d tt c { h with aT:=(h.aT.ask p.aj p.src p.id).1 }):=λGk=>Gk.sub (by
     rw [zY N];refine((S2.both tt _).more (AB (G.isNone (za8 _)) apj.symm) _))
    have kk:¬((1:Int)=2):=by decide
    simp only [H2,H1] at a1;cases ha:(h.aT.ask p.aj p.src p.id).2 with
    |false=>
     have hp:h.handle c me p=({ h with aT:=(h.aT.ask p.aj p.src p.id).1 },.zero,false,0):=by
      simp only [Home.handle];rw [if_neg h1,if_neg h2,if_pos hk];rw [if_neg (by rw [ha];decide)]
     rw [hp];rw [ha] at a1;obtain⟨K2,y1,y2,y3,y4⟩:=zst a2 hbK k2 (y:=zP9) rfl rfl;refine⟨K2,?_,fin y3,(st2.trans a3).trans y4⟩;simp only [Nat.reduceLT,Nat.reduceAdd,xq_,uG,aG (aV p),pa,ck,p2,l10,hds,p1,l2,hsr,zae,zal,p0,hk,la,p4,ho,hh,l3,hl2,lt,p3,a1,ez,y1,y2,Xb,fP]
    |true=>
     have hp:h.handle c me p=({ h with aT:=(h.aT.ask p.aj p.src p.id).1 },granted h.dK me p.aj p.src p.id,true,0):=by
      simp only [Home.handle];rw [if_neg h1,if_neg h2,if_pos hk];rw [if_pos ha]
     rw [hp];rw [ha] at a1;have q1:=a2.load k1 (i:=1) (x:=I p.src) rfl;have q3:=a2.load k1 (i:=3) (x:=I p.id) rfl;have q4:=a2.load k1 (i:=4) (x:=I p.aj) rfl;have gr:=LD a2 NK hr p.aj p.src p.id;obtain⟨K2,y1,y2,y3,y4⟩:=zst a2 hbK k2 (y:=(granted h.dK me p.aj p.src p.id).av) (bZ _) (aV _);refine⟨K2,?_,fin y3,(st2.trans a3).trans y4⟩;simp only [Nat.reduceLT,Nat.reduceAdd,xq_,uG,aG (aV p),pa,ck,p2,l10,hds,p1,l2,hsr,zae,p0,hk,la,p4,ho,hh,l3,hl2,lt,p3,a1,q1,q3,q4,gr,y1,y2,Xb]
   ·obtain⟨K1,a1,a2,a3⟩:=acd G2' (by simp only [H2,H1,jD];exact hb) N2 p hl;have hqt:tt≠H.next:=G.ne N.2.2
    have apj:tt≠H.next+1:=by have:=G.lt N.2.2;omega
    have hqd:d≠H.next:=G.ne N.2.1
    have atu:d≠H.next+1:=by have:=G.lt N.2.1;omega
    have k1:lV g2 d tt c (h.unlock c p).1 H.next=some (p.av.map Cell.av):=by unfold lV;rw [bn hqt.symm,bn hqd.symm];exact hp1
    have k2:lV g2 d tt c (h.unlock c p).1 (H.next+1)=some (zP9.map Cell.av):=by unfold lV;rw [bn apj.symm,bn atu.symm];exact hp2
    have NK:=N2.ajT (h.unlock c p).1;have hbK:K1.base<=b:=by rw [a3.base];simp only [H2,H1,jD];exact hb
    have fin:∀{K2:ah} {y:List Cell},Good b K2 (upd (lV g2 d tt c (h.unlock c p).1) (H.next+1) y)->Good b K2 (lV g d tt c (h.unlock c p).1):=λGk=>Gk.sub (by
     refine((RI S2 _).more ?_ _);unfold lV;rw [bn apj.symm,bn atu.symm];exact G.isNone (za8 _))
    have kk:¬((2:Int)=1):=by decide
    simp only [H2,H1] at a1;by_cases hz:(h.unlock c p).2=0
    ·have hp:h.handle c me p=((h.unlock c p).1,⟨8,me,p.src,p.id,p.aj,0,0,false,[]⟩,true,0):=by
      simp only [Home.handle];rw [if_neg h1,if_neg h2,if_neg hk0,if_pos hz]
     rw [hp];rw [hz] at a1;have q1:=a2.load k1 (i:=1) (x:=I p.src) rfl;have q3:=a2.load k1 (i:=3) (x:=I p.id) rfl;have q4:=a2.load k1 (i:=4) (x:=I p.aj) rfl;have q10:=a2.load NK.1 (i:=10) (x:=I me) rfl;have hd0:dat ([]:List Int)=zN:=by simp [dat,gQ]
     obtain⟨K2,y1,y2,y3,y4⟩:=zst a2 hbK k2 (y:=(Pkt.mk 8 me p.src p.id p.aj 0 0 false []).av) (bZ _) (aV _);refine⟨K2,?_,fin y3,(st2.trans a3).trans y4⟩;have eb:bd 112 [(0,I 8),(1,I me),(2,I p.src),(3,I p.id),(4,I p.aj)]=some (.agg (Pkt.mk 8 me p.src p.id p.aj 0 0 false []).av):=by
      simp only [xq_,qZ,jC,gu,Hw,Pkt.av,hd0];rfl
     simp only [Nat.reduceLT,Nat.reduceAdd,xq_,uG,aG (aV p),pa,ck,p2,l10,hds,p1,l2,hsr,zae,zal,p0,hk,kk,la,p4,ho,hh,l3,hl2,a1,q10,q1,q3,q4,eb,y1,y2,Xb]
    ·have hp:h.handle c me p=((h.unlock c p).1,.zero,false,(h.unlock c p).2):=by
      simp only [Home.handle];rw [if_neg h1,if_neg h2,if_neg hk0,if_neg hz]
     rw [hp];obtain⟨K2,y1,y2,y3,y4⟩:=zst a2 hbK k2 (y:=zP9) rfl rfl;refine⟨K2,?_,fin y3,(st2.trans a3).trans y4⟩;simp only [Nat.reduceLT,Nat.reduceAdd,xq_,uG,aG (aV p),pa,ck,p2,l10,hds,p1,l2,hsr,zae,zal,p0,hk,kk,la,p4,ho,hh,l3,hl2,a1,hz,ez,y1,y2,Xb,fP]
end
def acf(l:List Int):(l.mergeSort λx y=>decide (x<=y))=srt [] l:=by
 have tr:∀a b c:Int,decide (a<=b)=true->decide (b<=c)=true->decide (a<=c)=true:=λa b c d e=>by simp only [decide_eq_true_eq] at*;omega
 have to:∀a b:Int,(decide (a<=b) || decide (b<=a))=true:=λa b=>by simp only [zbk,decide_eq_true_eq];omega
 exact(alV (List.mergeSort_perm l _).symm ((List.pairwise_mergeSort tr to l).imp λh=>of_decide_eq_true h)).symm
def ae8(l:List Int):aae l=dat (srt [] l):=by
 unfold aae;split
 ·rename_i h;subst h;simp [dat,gQ,srt,alS]
 ·rename_i h;have g:=(vO l [] List.Pairwise.nil).1;have b:(srt [] l).length=l.length:=g.length_eq;have d:srt [] l≠[]:=λe=>h (by rw [e] at b;exact zat b.symm);rw [xM d,acf,b]
section
variable {b:Nat}{H:ah}{g:bD}{q d tt:Nat}{c:Cfg}{me:Int}{h:Home}
structure TOk(t:Turns):Prop where
 nd:(t.wait.map (·.1)).Nodup
 key:∀e∈t.wait,0<=e.1/\e.1<1000
 len:t.wait.length<1000
 ws:∀aj,(t.ws aj).length<1000000
def LG(G:Good b H g){t:Turns}(h:g q=some (iV t))(T:TOk t):cl 123 [.ref q 0 0] H=some (dat (t.ready (srt [] (t.wait.map (·.1)))),H):=by
 obtain⟨r,aes,f1,f2,f3,f4⟩:=G.guard.ajJ h (i:=1) rfl;have f4:aes.map (·.1)=t.wait.map (·.1):=by rw [f4];simp
 let H1:=H.guard.new (.blk 0 201 [.mp r]);have k1:cl 164 [.mp r] H.guard=some (.fn (.func 186) [] [.ref H.next 0 0],H1):=by
  refine bC rfl rfl (aoj _ _ _ ?_);have eb:iq 201 (.mp r) H.guard=some (.ref H.next 0 0,H1):=rfl;simp only [xq_,aht,eb]
 have k2:cl 163 [.fn (.func 186) [] [.ref H.next 0 0]] H1=some (dat (srt [] (t.wait.map (·.1))),H1):=by
  refine G8 (p:=CY Ep KU) rfl ?_;have g1:H1.get H.next=.blk 0 201 [.mp r]:=aZ rfl
  have g2:H1.get r=.map .i64 aes:=by rw [<-f3];exact bM f2
  have hc:(True/\201<iw/\186≠0/\186∈Ep/\(aes.map (·.1)).Nodup/\(aes.all λe=>(Lit.int .i64 e.1).wf)=true/\aes.length<=1000000):=by
   refine⟨trivial,by unfold iw;decide,by decide,by simp [Ep],by rw [f4];exact T.nd,?_,?_⟩
   ·rw [za2];intro e he;have:e.1∈t.wait.map (·.1):=by rw [<-f4];exact zaJ.2 ⟨e,he,rfl⟩
    obtain⟨x,hx,hxe⟩:=zaJ.1 this;have:=T.key x hx;have m1:IntKind.min .i64=-9223372036854775808:=rfl;have m2:IntKind.max .i64=9223372036854775807:=rfl;simp only [Lit.wf,m1,m2,zah,decide_eq_true_eq];rw [<-hxe];omega
   ·have:=congrArg List.length f4;simp only [zaE] at this;have:=T.len;omega
  simp only [CY,g1,g2];rw [if_pos hc,f4,ae8]
 have hsp:=vO (t.wait.map (·.1)) [] List.Pairwise.nil;obtain⟨K,hK0⟩:∃K,K=srt [] (t.wait.map (·.1)):=⟨_,rfl⟩
 rw [<-hK0] at k2 hsp ⊢;have hK:K.length<1000:=by have:=hsp.1.length_eq;simp only [zaM,zaE] at this;have:=T.len;omega
 have hs:∀H',aN H' (dat K) 1 K.length (K.map I):=λH'=>kZ H' K;let p:Int->Bool:=λaj=>!t.owned aj && !(t.ws aj).isEmpty
 let F:Nat->List Int:=λj=>(K.take j).filter p
 have key:∀k j,j+k=K.length->∀(Hi:ah) (o:AV),Own H.next Hi o 1 ((F j).map I)->(F j=[]->o=zN)->Step H.next H.guard Hi->
   ∃y Hz,FB cl [.ref q 0 0,o,dat K,I K.length,I j] Hi=some (y,Hz)/\Own H.next Hz y 1 ((t.ready K).map I)/\(t.ready K=[]->y=zN):=by
  intro k
  induction k with
  |zero=>
   intro j hj Hi o O z s;have h1:¬(j:Int)<K.length:=by omega
   have:F j=t.ready K:=by
    simp only [F,Turns.ready,p];rw [zau (by omega)]
   rw [this] at O z;refine⟨o,Hi,?_,O,z⟩;rw [VZ];simp only [xq_,h1]
  |succ k ih=>
   intro j hj Hi o O z s;have h1:(j:Int)<K.length:=by omega
   have h6:(j:Int)+1=((j+1:Nat):Int):=by omega
   have h7:=wrap_i64 (a:=((j+1:Nat):Int)) (by omega) (by omega);have sb:Hi.base=H.next:=s.base
   have sn:H.next<=Hi.next:=s.next
   obtain⟨e,he⟩:∃e,K[j]?=some e:=⟨_,zab (by omega)⟩
   have s1:=(hs Hi).ix (k:=.i64) (i:=(j:Int)) (by omega) h1;rw [zar] at s1;have s2:=(hs Hi).ld (i:=j) (by omega);rw [zaH,he] at s2;simp only [zaj] at s2;have Gi:Good b Hi g:=G.guard.ext s.next s.low
   have o1:=yH Gi h e;have w1:=xW Gi h e;have hFs:F (j+1)=F j++if p e=true then [e] else []:=by
    simp only [F,zcz,he,zcS,zcq]
    congr 1
    cases hp:p e <;> simp [hp]
   have hm:(F j).length<=j:=zax (zcv _ _) (by rw [zav];omega);rw [VZ];cases hp:p e with
   |true=>
    rw [hp,if_pos rfl] at hFs;have ho:t.owned e=false:=by simp only [p,zah,za7] at hp;exact hp.1
    have hw:(0:Int)<(t.ws e).length:=by
     simp only [p,zah,za7] at hp;cases hz:t.ws e with
     |nil=>rw [hz] at hp;simp at hp
     |cons a l=>simp only [zam];omega
    obtain⟨o',H2,t1,t2,t3⟩:=(O.new (.blk 0 3 [I e])).step (n:=(F j).length) (k:=1) (e:=3) (by_:=8) (y:=.sl Hi.next 0 0 1 1 1 true) (new:=[I e]) (by simp only [fB];omega) (by simp only [jD];omega) (by decide) (by simp) (kQ rfl) rfl (by unfold most;omega) (by unfold most;omega);obtain⟨y,Hz,r1,r2⟩:=ih (j+1) (by omega) H2 o' (by rw [hFs,zbi];exact t2) (λhz=>by rw [hFs] at hz;simp at hz) ((s.trans (Step.new _ sn)).trans t3);refine⟨y,Hz,?_,r2⟩;rw [ho] at o1;have eb:∀H,bs 22 1 [(0,I e)] H=some (.sl H.next 0 0 1 1 1 true,H.new (.blk 0 3 [I e])):=λH=>(Qy (by decide)).trans (lq rfl rfl rfl);simp only [xq_,h1,s1,s2,o1,w1,hw,zal,eb,t1,Bo,bU,h6,h7];exact r1
   |false=>
    rw [hp,if_neg (by simp),zbm] at hFs;obtain⟨y,Hz,r1,r2⟩:=ih (j+1) (by omega) Hi o (by rw [hFs];exact O) (by rw [hFs];exact z) s;refine⟨y,Hz,?_,r2⟩;cases ho:t.owned e with
    |true=>
     rw [ho] at o1;simp only [xq_,h1,s1,s2,o1,zae,Bo,bU,h6,h7];exact r1
    |false=>
     rw [ho] at o1;have hw:¬(0:Int)<(t.ws e).length:=by
      simp only [p,ho,zal,zaN,Bool.not_eq_false'] at hp;rw [List.isEmpty_iff] at hp;rw [hp];decide
     simp only [xq_,h1,s1,s2,o1,w1,hw,zal,Bo,bU,h6,h7];exact r1
 obtain⟨y,Hz,r1,r2,r3⟩:=key K.length 0 (by omega) H1 zN (.inl ⟨rfl,rfl⟩) (λ_=>rfl) (Step.new _ (zac _));refine iM rfl rfl (anA _ _ _ (r:=(y,Hz)) ?_) ?_
 ·have e2:=(hs H1).lnS;simp only [H1] at k1 k2 e2 r1;simp only [xq_,agW,f1,k1,k2,e2];exact r1
 ·by_cases hz:t.ready K=[]
  ·rw [r3 hz,hz];simp only [dat,gQ];exact jc
  ·rw [xM hz];exact Dz r2 (by decide) (by simp) (λy hy=>yE (d:=7) _ y hy _ _) (λe=>hz (zat e))
end
def Off(S:Nat->Prop)(g g':bD):Prop:=∀q,¬S q->g' q=g q
def Off.refl(S:Nat->Prop)(g:bD):Off S g g:=λ_ _=>rfl
def Off.trans {S:Nat->Prop}{g g' b:bD}(h:Off S g g')(e:Off S g' b):Off S g b:=λq d=>(e q d).trans (h q d)
def Off.upd {S:Nat->Prop}{g:bD}{q:Nat}{cs:List Cell}(h:S q):Off S g (upd g q cs):=λx b=>by
 rw [bn];intro e;subst e;exact b h
def Off.mono {S T:Nat->Prop}{g g':bD}(h:Off S g g')(hs:∀q,S q->T q):Off T g g':=λq b=>h q λd=>b (hs q d)
def PI(P:Nat->Nat->Nat)(n:Nat)(q:Nat):Prop:=∃i s,i<n/\s<4/\q=P i s
def SY(p:Port):Nat->List Pkt
 |0=>p.rq
 |1=>p.rin
 |2=>p.an
 |_=>p.ain
def PK(c:Cfg):Nat->Int
 |0=>c.out
 |1=>c.inn
 |2=>c.out
 |_=>1
def oIx(req:Bool):Nat:=if req then 0 else 2
def iIx(req:Bool):Nat:=if req then 1 else 3
def ig {g:bD}{a:Nat->Nat}{c:Cfg}{p:Port}(h:wK g a c p):∀{s:Nat},s<4->g (a s)=some (oD (SY p s) (PK c s)):=λ{s} hs=>by
 obtain⟨b,d,e,i⟩:=h
 match s,hs with
 |0,_=>exact b
 |1,_=>exact d
 |2,_=>exact e
 |3,_=>exact i
def BJ {g:bD}{a:Nat->Nat}{c:Cfg}{p:Port}(h:∀s,s<4->g (a s)=some (oD (SY p s) (PK c s))):wK g a c p:=
 ⟨h 0 Z,h 1 Z,h 2 Z,h 3 Z⟩
def BK(p:Port)(req:Bool):SY p (oIx req)=p.sort req:=by cases req <;> rfl
def Jf(p:Port)(req:Bool):SY p (iIx req)=p.ql req:=by cases req <;> rfl
def sV(c:Cfg)(req:Bool):PK c (oIx req)=c.out:=by cases req <;> rfl
def uN(req:Bool):oIx req<4:=by cases req <;> decide
def sW(req:Bool):iIx req<4:=by cases req <;> decide
def zZ(p:Port)(req:Bool)(l:List Pkt)(s:Nat)(hs:s<4):SY (p.kR req l) s=if s=oIx req then l else SY p s:=by
 match s,hs with
 |0,_=>cases req <;> rfl
 |1,_=>cases req <;> rfl
 |2,_=>cases req <;> rfl
 |3,_=>cases req <;> rfl
def DK(p:Port)(req:Bool)(l:List Pkt)(s:Nat)(hs:s<4):SY (p.lI req l) s=if s=iIx req then l else SY p s:=by
 match s,hs with
 |0,_=>cases req <;> rfl
 |1,_=>cases req <;> rfl
 |2,_=>cases req <;> rfl
 |3,_=>cases req <;> rfl
section
variable {b:Nat}{H:ah}{g:bD}{f:Nat}{P:Nat->Nat->Nat}{c:Cfg}{fab:Fab}
def iJ.sub {g':bD}(F:iJ g f P c fab)(hs:sG g g'):iJ g' f P c fab:=
 ⟨hs _ _ F.1,λi p e=>by obtain⟨a,b,c,d⟩:=F.2.1 i p e;exact⟨hs _ _ a,hs _ _ b,hs _ _ c,hs _ _ d⟩,F.2.2⟩
def iJ.fne(F:iJ g f P c fab){i s:Nat}(hi:i<fab.l.length)(hs:s<4):f≠P i s:=λe=>by
 have d:=F.1;have b:=ig (F.port hi) hs;rw [<-e,d] at b;have:=congrArg List.length (zaX b);simp [aeJ,oD] at this
def iJ.fill(F:iJ g f P c fab)(J:Ux P fab.l.length){i s:Nat}(hi:i<fab.l.length)(hs:s<4){p':Port}{l:List Pkt}(q:∀t,t<4->SY p' t=if t=s then l else SY (fab.port i) t):
  iJ (upd g (P i s) (oD l (PK c s))) f P c (fab.put i p'):=by
 have m:(fab.put i p').l.length=fab.l.length:=by simp [Fab.put]
 refine⟨by rw [m,bn (F.fne hi hs)];exact F.1,λj p h=>?_,F.2.2⟩;simp only [Fab.put,zar] at h;have o:j<fab.l.length:=by have:=(zaf.1 h).1;simpa using this
 by_cases b:i=j
 ·subst b;rw [zbc hi] at h;cases h;refine BJ λt k=>?_;rw [q t k];by_cases d:t=s
  ·subst d;rw [if_pos rfl,aQ]
  ·rw [if_neg d,bn (λe=>d (J _ _ _ _ hi hi k hs e).2)];exact ig (F.port hi) k
 ·rw [zbl b] at h;refine BJ λt k=>?_;rw [bn (λe=>b (J _ _ _ _ o hi k hs e).1.symm)];have:=ig (F.2.1 j p h) k;exact this
def BL {i:Int}(hi:fab.is i=true):∃n:Nat,i=n/\n<fab.l.length:=by
 simp only [Fab.is,zah,decide_eq_true_eq] at hi;exact⟨i.toNat,V,V⟩
def ae9(a:Nat->Nat)(req:Bool):List AV:=[.ref (a (oIx req)) 0 0,.ref (a (iIx req)) 0 0]
def Gf(H:ah)(hb:H.base<=H.next)(a:Nat->Nat)(req:Bool):∃H',cl 49 [.agg (pG a),B req] H=some (.agg (ae9 a req),H')/\Made H H' qC:=by
 refine kS rfl rfl (arq _ _ _ _) ?_;have b:(pG a).all AV.aP=true:=rfl;cases req with
 |true=>
  refine⟨(H.new (.blk 0 101 (pG a))).new (.blk 0 99 (ae9 a true)),?_,((Made.refl hb).new _).new _⟩;simp only [Nat.reduceLT,Nat.reduceAdd,aO,xq_,hq_,aiX,pG,ae9,oIx,iIx,aG,hb]
 |false=>
  refine⟨(H.new (.blk 0 101 (pG a))).new (.blk 0 99 (ae9 a false)),?_,((Made.refl hb).new _).new _⟩;simp only [Nat.reduceLT,Nat.reduceAdd,aO,xq_,hq_,aiX,pG,ae9,oIx,iIx,aG,hb]
def BM(G:Good b H g)(F:iJ g f P c fab){i:Nat}(hi:i<fab.l.length):∃x r gg o,ld (.ref f 0 0) H=some (x,H)/\ix 4 x (I i) H=some (.ref r gg o,H)/\lda 4 (.ref r gg o) H=some (.agg (pG (P i)),H):=by
 obtain⟨x,e,h⟩:=G.seq F.1 (i:=0) rfl;obtain⟨r,gg,o,j,_,d⟩:=h.elemAt Z (pX P _) hi;have k:(List.range fab.l.length)[i]?=some i:=zbB hi;have:=vJ (enc:=λi=>pG (P i)) (m:=4) (λ_=>rfl) (List.range fab.l.length) i i k;rw [this] at d;exact⟨x,r,gg,o,e,j .i64,d⟩
structure FOk(c:Cfg)(fab:Fab):Prop where
 ok:c.ok=true
 len:fab.l.length<1000
 box:∀p∈fab.l,∀s,s<4->((SY p s).length:Int)<=PK c s
 dat:∀p∈fab.l,∀s,s<4->∀q∈SY p s,q.data.length<1000000000
def LH {c:Cfg}(h:c.ok=true)(s:Nat):0<=PK c s/\PK c s<1000:=by
 have B:=vT h;have:=B.out;have:=B.inn;unfold PK;split <;> omega
def FOk.small {c:Cfg}{fab:Fab}(K:FOk c fab){p:Port}(b:p∈fab.l){s:Nat}(hs:s<4):(SY p s).length<1000:=by
 have:=K.box p b s hs;have:=(LH K.ok s).2;omega
def Fab.vX {fab:Fab}{i:Nat}(hi:i<fab.l.length):fab.port i∈fab.l:=by
 unfold Fab.port;rw [zar,zas,zab hi];exact zc2 hi
def ajU(G:Good b H g)(hb:H.base<=b)(F:iJ g f P c fab)(K:FOk c fab)(i:Int)(req:Bool):∃H',cl 79 [.ref f 0 0,I i,B req] H=some (I (fab.roomOf i req),H')/\Good b H' g/\Step b H H':=by
 refine kS rfl rfl (arU _ _ _ _ _) ?_;have e:=BH G F K.len i;cases hi:fab.is i with
 |false=>
  rw [hi] at e;refine⟨H,?_,G,Step.refl _ _⟩;have:fab.roomOf i req=0:=by simp [Fab.roomOf,hi]
  simp only [xq_,ai9,e,zal,this]
 |true=>
  rw [hi] at e;obtain⟨n,rfl,h⟩:=BL hi;obtain⟨x,r,gg,o,q,u,v⟩:=BM G F h;obtain⟨H1,w,d⟩:=Gf H (zax hb G.1) (P n) req;have m:Good b H1 g:=G.ext d.next d.same
  have j:=ig (F.port h) (uN req);have p:=Wu m j (LH K.ok _).1 (LH K.ok _).2 (K.small (Fab.vX h) (uN req));rw [BK,sV,<-F.2.2.1] at p;refine⟨H1,?_,m,⟨d.base,d.next,λr y=>d.same r (zaz y G.1)⟩⟩;have k:fab.roomOf n req=fab.out-((fab.port n).sort req).length:=by unfold Fab.roomOf;rw [if_pos hi]
  have z:(ae9 (P n) req)[0]?=some (.ref (P n (oIx req)) 0 0):=rfl;simp only [xq_,ai9,e,zae,q,u,v,w,z,p,k]
def ajV(G:Good b H g)(hb:H.base<=b)(F:iJ g f P c fab)(J:Ux P fab.l.length)(K:FOk c fab)(p:Pkt)(hl:p.data.length<1000000000):
  ∃H' g',cl 81 [.ref f 0 0,.agg p.av] H=some (I (fab.send p).2,H')/\Good b H' g'/\iJ g' f P c (fab.send p).1/\Off (PI P fab.l.length) g g'/\Step b H H':=by
 have hb0:H.base<=H.next:=zax hb G.1
 let H1:=H.new (.blk 0 112 p.av);have G1:Good b H1 g:=G.new _;have ck:=BI H1 p;have e1:=BH G1 F K.len p.src;have e2:=BH G1 F K.len p.dst;by_cases hbad:(!p.ok || !fab.is p.src || !fab.is p.dst)=true
 ·have hp:fab.send p=(fab,1):=by simp only [Fab.send];rw [if_pos hbad]
  rw [hp];refine⟨H1,g,bC rfl rfl (amS _ _ _ _ ?_),G1,F,Off.refl _ _,Step.new _ G.1⟩;simp only [H1] at ck e1 e2 ⊢;have f1:p.av[1]?=some (I p.src):=rfl;have f2:p.av[2]?=some (I p.dst):=rfl;cases hok:p.ok with
  |false=>
   rw [hok] at ck;simp only [Nat.reduceLT,Int.reduceEq,xq_,hq_,aaL,aG (aV p),ck,zal]
  |true=>
   rw [hok] at ck hbad;cases hs:fab.is p.src with
   |false=>
    rw [hs] at e1;simp only [Nat.reduceLT,xq_,hq_,aaL,aG (aV p),ck,zae,f1,e1,zal]
   |true=>
    rw [hs] at e1 hbad;have hd:fab.is p.dst=false:=by simpa using hbad
    rw [hd] at e2;simp only [Nat.reduceLT,xq_,hq_,aaL,aG (aV p),ck,zae,f1,f2,e1,e2,zal]
 ·have hcond:p.ok=true/\fab.is p.src=true/\fab.is p.dst=true:=by
   cases h1:p.ok <;> cases h2:fab.is p.src <;> cases h3:fab.is p.dst <;> simp_all
  obtain⟨hok,hs,hd⟩:=hcond;rw [hok] at ck;rw [hs] at e1;rw [hd] at e2;obtain⟨n,hsn,hn⟩:=BL hs;obtain⟨x,r,gg,o,h1,h2,h3⟩:=BM G1 F hn;let req:=qR p.aS;have rq:=Ls H1.guard p.aS;obtain⟨K1',s1,s2⟩:=Gf H1.guard (zac _) (P n) req;obtain⟨K1,s1,s2⟩:=drawn s1 s2;have G2:Good b K1 g:=G1.ext s2.next s2.same
  have hbx:=ig (F.port hn) (uN req);have hbK:K1.base<=b:=by rw [s2.base];exact hb
  obtain⟨H',q1,q2,q3⟩:=ajh G2 hbK hbx (LH K.ok _).1 (LH K.ok _).2 (K.small (Fab.vX hn) (uN req)) p hl;have g1:K1.get H.next=.blk 0 112 p.av:=by rw [s2.same _ (by simp only [H1,fB];omega)];exact aZ rfl
  have l9:lda 9 (.ref H.next 0 0) K1=some (.agg p.av,K1):=by
   rw [iK (off:=0) (n:=9) g1 (by rw [bZ];exact zac _),zaS,QB]
  rw [BK,sV] at q1;have hout:fab.out=c.out:=F.2.2.1;have hle:=K.box _ (Fab.vX hn) _ (uN req);rw [BK,sV] at hle;have f0:p.av[0]?=some (I p.aS):=rfl;have f1:p.av[1]?=some (I p.src):=rfl;have f2:p.av[2]?=some (I p.dst):=rfl;have l0:(ae9 (P n) req)[0]?=some (.ref (P n (oIx req)) 0 0):=rfl;have run:∀v,cl 128 [.ref (P n (oIx req)) 0 0,.agg p.av] K1=some (v,H')->cl 81 [.ref f 0 0,.agg p.av] H=some (v,H'):=λv q1=>by
   refine bC rfl rfl (amS _ _ _ _ ?_);rw [hsn] at f1 e1;simp only [H1,req] at ck e1 e2 rq h1 h2 h3 s1 l0 q1;simp only [Nat.reduceLT,xq_,hq_,aaL,aG (aV p),ck,zae,f0,f1,f2,e1,e2,h1,h2,h3,rq,s1,l0,l9,q1]
  have st0:Step b H K1:=(Step.new _ G.1).trans ⟨s2.base,s2.next,λr hr=>s2.same r (zaz hr G1.1)⟩;have hset:Off (PI P fab.l.length) g (upd g (P n (oIx req)) (oD (if PK c (oIx req)=((SY (fab.port n) (oIx req)).length:Int) then SY (fab.port n) (oIx req) else SY (fab.port n) (oIx req)++[p]) (PK c (oIx req)))):=Off.upd ⟨n,oIx req,hn,uN req,rfl⟩;rw [BK,sV] at q2 hset;by_cases hfull:c.out=(((fab.port n).sort req).length:Int)
  ·have hp:fab.send p=(fab,5):=by
    simp only [Fab.send];rw [if_neg hbad,hsn,hout,if_pos (Int.le_of_eq hfull)]
   rw [if_pos hfull] at q1 q2 hset;rw [fQ (by rw [ig (F.port hn) (uN req),BK,sV])] at q2;rw [hp];exact⟨H',g,run _ q1,q2,F,Off.refl _ _,st0.trans q3⟩
  ·have hp:fab.send p=(fab.put n ((fab.port n).kR req ((fab.port n).sort req++[p])),0):=by
    simp only [Fab.send];rw [if_neg hbad,hsn,hout,if_neg (λh=>hfull (Int.le_antisymm h hle))]
   rw [if_neg hfull] at q1 q2 hset;rw [hp];refine⟨H',_,run _ q1,q2,?_,hset,st0.trans q3⟩;have:=F.fill J hn (uN req) (p':=(fab.port n).kR req ((fab.port n).sort req++[p])) (l:=(fab.port n).sort req++[p]) (zZ _ _ _);rw [sV] at this;exact this
end
section
variable {b:Nat}{H:ah}{g:bD}{f:Nat}{P:Nat->Nat->Nat}{c:Cfg}{fab:Fab}
def iJ.aus(G:Good b H g)(F:iJ g f P c fab){q:Nat}(h:PI P fab.l.length q):q<H.next:=by
 obtain⟨i,s,hi,hs,rfl⟩:=h;exact G.lt (ig (F.port hi) hs)
def iJ.UN(G:Good b H g)(F:iJ g f P c fab):¬PI P fab.l.length H.next:=λh=>Nat.lt_irrefl _ (F.aus G h)
def ajW {K:ah}{g:bD}{r:Nat}{ys:List AV}(k:Good b K g)(hk:K.base<=b)(m:g r=some (ys.map Cell.av))(j:ys.length=9){y:List AV}(d:y.length=9)(ha:y.all AV.aP=true):
  ∃K',st 9 (.ref r 0 0) (.agg y) K=some (bg,K')/\lda 9 (.ref r 0 0) K'=some (.agg y,K')/\Good b K' (upd g r (y.map Cell.av))/\Step b K K':=by
 obtain⟨K',o,h,p,q⟩:=k.stores hk m (i:=0) (n:=9) (vs:=y) (by simp [j]) d ha;have e:qH (ys.map Cell.av) 0 y=y.map Cell.av:=by
  unfold qH;rw [zaV (by simp [d,j])];simp
 rw [e] at h;exact⟨K',o,h.loads aQ (i:=0) (n:=9) (xs:=y) (by rw [zaS,zau (by simp [d])]) d Z,h,p⟩
def acg(G:Good b H g)(hb:H.base<=b)(F:iJ g f P c fab)(J:Ux P fab.l.length)(K:FOk c fab)(i:Int)(req:Bool):
  ∃H' g',cl 113 [.ref f 0 0,I i,B req] H=some (iQ (fab.take i req).2,H')/\Good b H' g'/\iJ g' f P c (fab.take i req).1/\Off (PI P fab.l.length) g g'/\Step b H H':=by
 have hb0:H.base<=H.next:=zax hb G.1
 have G1:=G.newObj (ty:=112) (xs:=zP9) rfl;have S1:sG g (upd g H.next (zP9.map Cell.av)):=(sG.refl g).more (G.isNone (zac _)) _;have F1:=F.sub S1;have e1:=BH G1 F1 K.len i;have ez:bd 112 []=some (.agg zP9):=by simp only [xq_,qZ,jC,eu]
 cases hi:fab.is i with
 |false=>
  rw [hi] at e1;have hp:fab.take i req=(fab,none):=by simp [Fab.take,hi]
  rw [hp];obtain⟨K',t1,t2,t3,t4⟩:=ajW G1 (by rw [jD];exact hb) aQ rfl (y:=zP9) rfl rfl;refine⟨K',g,bC rfl rfl (agS _ _ _ _ _ ?_),t3.sub (by rw [qp];exact S1),F,Off.refl _ _,(Step.new _ G.1).trans t4⟩;simp only [xq_,aaT,e1,zal,ez,t1,t2,iQ,za4,zaK,fP]
 |true=>
  rw [hi] at e1;obtain⟨n,rfl,hn⟩:=BL hi;obtain⟨x,r,gg,o,h1,h2,h3⟩:=BM G1 F1 hn;obtain⟨K1,s1,s2⟩:=Gf (H.new (.blk 0 112 zP9)) (by rw [jD,fB];omega) (P n) req;have G2:Good b K1 _:=G1.ext s2.next s2.same
  have hbx:=ig (F1.port hn) (sW req);have hbK:K1.base<=b:=by rw [s2.base,jD];exact hb
  have st1:Step b H K1:=(Step.new _ G.1).trans ⟨s2.base,s2.next,λr hr=>s2.same r (zaz hr G1.1)⟩;obtain⟨K2,q1,q2,q3⟩:=abl G2 hbK hbx (K.small (Fab.vX hn) (sW req)) (K.dat _ (Fab.vX hn) _ (sW req));have hpn:P n (iIx req)≠H.next:=λe=>F.UN G ⟨n,iIx req,hn,sW req,e.symm⟩
  rw [Jf] at q1 q2;obtain⟨K3,t1,t2,t3,t4⟩:=ajW q2 (by rw [q3.base];exact hbK) (r:=H.next) (ys:=zP9) (by rw [bn hpn.symm,aQ]) rfl (y:=(((fab.port n).ql req).head?.getD .zero).av) (bZ _) (aV _);have l1:(ae9 (P n) req)[1]?=some (.ref (P n (iIx req)) 0 0):=rfl;have run:cl 113 [.ref f 0 0,I n,B req] H=some (iQ ((fab.port n).ql req).head?,K3):=by
   refine bC rfl rfl (agS _ _ _ _ _ ?_);simp only [iQ] at q1;simp only [xq_,aaT,e1,zae,h1,h2,h3,s1,l1,q1,t1,t2,iQ]
  have hsub:sG (upd g (P n (iIx req)) (oD ((fab.port n).ql req).tail (PK c (iIx req)))) (upd (upd (upd g H.next (zP9.map Cell.av)) (P n (iIx req)) (oD ((fab.port n).ql req).tail (PK c (iIx req)))) H.next ((((fab.port n).ql req).head?.getD .zero).av.map Cell.av)):=
   (S1.both _ _).more (AB (G.isNone (zac _)) hpn.symm) _
  have G3:=t3.sub hsub;cases hz:(fab.port n).ql req with
  |nil=>
   have hp:fab.take n req=(fab,none):=by simp [Fab.take,hi,hz]
   rw [hz] at run G3;rw [hp];rw [List.tail_nil,fQ (by rw [ig (F.port hn) (sW req),Jf,hz])] at G3;exact⟨K3,g,run,G3,F,Off.refl _ _,(st1.trans q3).trans t4⟩
  |cons p l=>
   have hp:fab.take n req=(fab.put n ((fab.port n).lI req l),some p):=by simp [Fab.take,hi,hz]
   rw [hz] at run G3;rw [hp];refine⟨K3,_,run,G3,?_,Off.upd ⟨n,iIx req,hn,sW req,rfl⟩,(st1.trans q3).trans t4⟩;exact F.fill J hn (sW req) (p':=(fab.port n).lI req l) (l:=l) (DK _ _ _)
def DL(G:Good b H g)(hb:H.base<=b)(F:iJ g f P c fab)(J:Ux P fab.l.length)(K:FOk c fab)(i:Int):
  ∃H' g',cl 82 [.ref f 0 0,I i] H=some (iQ (fab.take i true).2,H')/\Good b H' g'/\iJ g' f P c (fab.take i true).1/\Off (PI P fab.l.length) g g'/\Step b H H':=by
 have G1:=G.newObj (ty:=112) (xs:=zP9) rfl;have S1:sG g (upd g H.next (zP9.map Cell.av)):=(sG.refl g).more (G.isNone (zac _)) _;have F1:=F.sub S1;obtain⟨K1,g',q1,q2,q3,q4,q5⟩:=acg G1 (by rw [jD];exact hb) F1 J K i true;have hg':g' H.next=some (zP9.map Cell.av):=by rw [q4 _ (F.UN G),aQ]
 obtain⟨K2,t1,t2,t3,t4⟩:=ajW q2 (by rw [q5.base,jD];exact hb) hg' rfl (y:=((fab.take i true).2.getD .zero).av) (bZ _) (aV _);let g2:bD:=λq=>if q=H.next then none else g' q
 have hn:g H.next=none:=G.isNone (zac _)
 have F2:iJ g2 f P c (fab.take i true).1:=by
  have ne:∀q cs,g' q=some cs->q≠H.next->g2 q=some cs:=λq cs h1 h2=>by simp only [g2];rw [if_neg h2];exact h1
  have hlen:(fab.take i true).1.l.length=fab.l.length:=by
   unfold Fab.take;split
   ·split
    ·rfl
    ·simp [Fab.put]
   ·rfl
  have fn:f≠H.next:=G.ne F.1
  refine⟨ne _ _ q3.1 fn,λj p hj=>BJ λs hs=>ne _ _ (ig (q3.2.1 j p hj) hs) λe=>?_,q3.2.2⟩;have hjl:j<fab.l.length:=by rw [<-hlen];exact(zaf.1 hj).1
  exact F.UN G ⟨j,s,hjl,hs,e.symm⟩
 refine⟨K2,g2,bC rfl rfl (arX _ _ _ _ ?_),t3.sub λq cs h=>?_,F2,λq hq=>?_,((Step.new _ G.1).trans q5).trans t4⟩
 ·simp only [iQ] at q1;simp only [xq_,amT,q1,t1,t2,iQ]
 ·simp only [g2] at h;split at h
  ·cases h
  ·rename_i hne;rw [bn hne];exact h
 ·simp only [g2];split
  ·rename_i e;rw [e,hn]
  ·rename_i hne;rw [q4 q hq,bn hne]
def OU(G:Good b H g)(hb:H.base<=b)(F:iJ g f P c fab)(J:Ux P fab.l.length)(K:FOk c fab)(i:Int):
  ∃H' g',cl 72 [.ref f 0 0,I i] H=some (iQ (fab.take i false).2,H')/\Good b H' g'/\iJ g' f P c (fab.take i false).1/\Off (PI P fab.l.length) g g'/\Step b H H':=by
 have G1:=G.newObj (ty:=112) (xs:=zP9) rfl;have S1:sG g (upd g H.next (zP9.map Cell.av)):=(sG.refl g).more (G.isNone (zac _)) _;have F1:=F.sub S1;obtain⟨K1,g',q1,q2,q3,q4,q5⟩:=acg G1 (by rw [jD];exact hb) F1 J K i false;have hg':g' H.next=some (zP9.map Cell.av):=by rw [q4 _ (F.UN G),aQ]
 obtain⟨K2,t1,t2,t3,t4⟩:=ajW q2 (by rw [q5.base,jD];exact hb) hg' rfl (y:=((fab.take i false).2.getD .zero).av) (bZ _) (aV _);let g2:bD:=λq=>if q=H.next then none else g' q
 have hn:g H.next=none:=G.isNone (zac _)
 have F2:iJ g2 f P c (fab.take i false).1:=by
  have ne:∀q cs,g' q=some cs->q≠H.next->g2 q=some cs:=λq cs h1 h2=>by simp only [g2];rw [if_neg h2];exact h1
  have hlen:(fab.take i false).1.l.length=fab.l.length:=by
   unfold Fab.take;split
   ·split
    ·rfl
    ·simp [Fab.put]
   ·rfl
  have fn:f≠H.next:=G.ne F.1
  refine⟨ne _ _ q3.1 fn,λj p hj=>BJ λs hs=>ne _ _ (ig (q3.2.1 j p hj) hs) λe=>?_,q3.2.2⟩;have hjl:j<fab.l.length:=by rw [<-hlen];exact(zaf.1 hj).1
  exact F.UN G ⟨j,s,hjl,hs,e.symm⟩
 refine⟨K2,g2,bC rfl rfl (arL _ _ _ _ ?_),t3.sub λq cs h=>?_,F2,λq hq=>?_,((Step.new _ G.1).trans q5).trans t4⟩
 ·simp only [iQ] at q1;simp only [xq_,amO,q1,t1,t2,iQ]
 ·simp only [g2] at h;split at h
  ·cases h
  ·rename_i hne;rw [bn hne];exact h
 ·simp only [g2];split
  ·rename_i e;rw [e,hn]
  ·rename_i hne;rw [q4 q hq,bn hne]
end
section
variable {b:Nat}{H:ah}{g:bD}{q:Nat}{l:List Pkt}{room:Int}
def Yu(G:Good b H g)(hb:H.base<=b)(h:g q=some (oD l room))(h3:l.length<1000)(hd:∀p∈l,p.data.length<1000000000)(k:Nat)(hk:k<l.length):
  ∃v H',cl 53 [.ref q 0 0,I k] H=some (v,H')/\Good b H' (upd g q (oD (l.eraseIdx k) room))/\Step b H H':=by
 obtain⟨p,hp⟩:∃p,l[k]?=some p:=⟨_,zab hk⟩
 have hq:=G.lt h;have G1:=G.newObj (ty:=112) (xs:=zP9) rfl;have h1:upd g H.next (zP9.map Cell.av) q=some (oD l room):=by rw [bn (by omega)];exact h
 have e1:=abm G1 h1 h3 hd k;rw [if_neg (by omega),zar,hp] at e1;simp only [iQ,zaw,zaL] at e1;have hb0:H.base<=H.next:=zax hb G.1
 have G2:=G1.newObj (ty:=112) (xs:=p.av) (aV _);have h2:upd (upd g H.next (zP9.map Cell.av)) (H.next+1) (p.av.map Cell.av) q=some (oD l room):=by rw [bn (by omega)];exact h1
 obtain⟨x,x',K1,K2,s1,s2,s3,s4,s5⟩:=Wv G2 (by rw [jD,jD];omega) h2 h3 hk;have G3:Good b K2 _:=s4;let gz:=upd (upd (upd g H.next (zP9.map Cell.av)) (H.next+1) (p.av.map Cell.av)) q (oD (l.eraseIdx k) room);have q2:gz (H.next+1)=some (p.av.map Cell.av):=by simp only [gz];rw [bn (by omega),aQ]
 have q1:gz H.next=some (zP9.map Cell.av):=by simp only [gz];rw [bn (by omega),bn (by omega),aQ]
 have l2:=G3.loads q2 (i:=0) (n:=9) (xs:=p.av) rfl rfl (by decide);obtain⟨K3,t1,t2,t3,t4⟩:=G3.stores (by rw [s5.base,jD,jD];exact hb) q1 (i:=0) (n:=9) (vs:=p.av) (by decide) rfl (aV _);have l3:=t2.loads aQ (i:=0) (n:=9) (xs:=p.av) rfl rfl (by decide);have w1:=wrap_i64 (a:=(k:Int)+1) (by omega) (by omega);have n1:g H.next=none:=G.isNone (zac _)
 have n2:g (H.next+1)=none:=G.isNone (by omega);refine⟨.tup [.agg p.av,B true],K3,bC rfl rfl (arw _ _ _ _ ?_),t2.sub (((((sG.refl g).more n1 _).more n2 _).both q _).more (AB n1 (by omega)) _),(((Step.new _ G.1).trans (Step.new _ (G.new _).1)).trans s5).trans t3⟩;simp only [Nat.reduceAdd,aO,xq_,hq_,amx,e1,Um,hb0,bU,w1,s1,s2,s3,l2,t1,l3]
end
def wL {β:Type}{r gg o:Nat}{H H':ah}{k:Option β}(h:H'.get r=H.get r):ck (bT (.ref r gg o)) H H' k=k:=abQ λx b=>by
 simp only [bT,zaa] at b;subst b;exact h
section
variable {β:Type}{r gg o:Nat}{X X':ah}{a a' c c':gG}{k:Option β}
def ckN(h:r<X.next):ck (bT (.ref r gg o)) (X.new a) (X.new a') k=k:=wL (by rw [bM h,bM h])
def ckM(h:r=X.next)(h':X'.next=X.next):ck (bT (.ref r gg o)) ((X.new a).new c) ((X'.new a).new c') k=k:=wL (by rw [bM (H:=X'.new a) (by rw [fB,h'];omega),bM (H:=X.new a) (by rw [fB];omega),aZ (h.trans h'.symm),aZ h])
end
def apk {β:Type}{l:List Int}{H H':ah}{k:Option β}:ck (bT (dat l)) H H' k=k:=abQ λx b=>by
 by_cases h:l=[]
 ·subst h;simp [dat,gQ,bT] at b
 ·rw [xM h] at b;simp [bT] at b
def mM:bJ.zero.av=[zI,zI,zI,zI,zI,zI,zN,zI,zI]:=by simp [bJ.zero,bJ.av,dat,gQ]
def ach(p:bJ){d:Nat}:∀x∈p.av,Frz (d+2) x:=λx b=>by
 simp only [bJ.av,zak,zaA,or_false] at b;rcases b with rfl|rfl|rfl|rfl|rfl|rfl|rfl|rfl|rfl <;> first|exact iy|exact vM
def aci(H:ah)(k:Int):cl 162 [I k] H=some (I (AL k),H):=by
 refine bC rfl rfl (aoi _ _ _ ?_);unfold AL;by_cases b:k=1
 ·simp only [Int.reduceEq,xq_,Eu,b]
 ·by_cases d:k=2
  ·simp only [Int.reduceEq,xq_,Eu,d]
  ·by_cases e:k=3
   ·simp only [Int.reduceEq,xq_,Eu,e]
   ·by_cases g:k=4
    ·simp only [Int.reduceEq,xq_,Eu,g]
    ·by_cases h:k=5
     ·simp only [Int.reduceEq,xq_,Eu,h]
     ·by_cases i:k=6
      ·simp only [Int.reduceEq,xq_,Eu,i]
      ·simp only [xq_,Eu,b,d,e,g,h,i]
def afa(H:ah)(aS aj id:Int):cl 134 [I aS,I aj,I id] H=some (.agg (bJ.begin aS aj id).av,H):=by
 refine dw rfl rfl (anP _ _ _ _ _) ?_ (oz (ach _));have b:dat ([]:List Int)=zN:=by simp [dat,gQ]
 simp only [Int.reduceNeg,Nat.reduceAdd,Nat.reduceLeDiff,aO,xq_,hq_,ag5,XR,jC,gu,alb,bJ.begin,bJ.av,b]
def UO(H:ah)(d:bJ)(p:Pkt):cl 155 [.agg d.av,.agg p.av] H=some (B (d.fits p),H):=by
 refine dw rfl rfl (aoa _ _ _ _) ?_ iy;have b:=λH=>aci H d.step;have e:=λH=>RD H (AL d.step);unfold bJ.fits;by_cases g:CX (AL d.step)=0
 ·simp only [Nat.reduceLT,xq_,hq_,KY,aG,bJ.av,Pkt.av,b,e,g,zae,zaP,not_true_eq_false]
 ·by_cases h:p.aS=CX (AL d.step)
  ·by_cases i:p.id=d.id
   ·by_cases j:p.aj=d.aj
    ·simp only [Nat.reduceLT,xq_,hq_,KY,aG,bJ.av,Pkt.av,b,e,g,h,i,j,zal]
    ·simp only [Nat.reduceLT,xq_,hq_,KY,aG,bJ.av,Pkt.av,b,e,g,h,i,j,zal,zb8]
   ·simp only [Nat.reduceLT,xq_,hq_,KY,aG,bJ.av,Pkt.av,b,e,g,h,i,zal,zaP,zb8]
  ·simp only [Nat.reduceLT,xq_,hq_,KY,aG,bJ.av,Pkt.av,b,e,g,h,zal,zaP,zb8]
def apl(H:ah)(d:bJ)(bF home:Int)(q:d.data.length<1000000000):cl 122 [.agg d.av,I bF,I home] H=some (.agg (d.ask bF home).av,H):=by
 refine dw rfl rfl (anz _ _ _ _ _) ?_ (oz (Xa _));have g:=λH k=>aci H k;have e:dat ([]:List Int)=zN:=by simp [dat,gQ]
 have u:=λH=>kD H d.data q;have v:=λH=>(kZ H d.data).lnS;have b:∀k,bd 112 [(0,I k),(1,I bF),(2,I home),(3,I d.id),(4,I d.aj)]=some (.agg [I k,I bF,I home,I d.id,I d.aj,zI,zI,zB,zN]):=λk=>by
  simp only [xq_,qZ,jC,gu,Hw];rfl
 have w:bd 112 []=some (.agg zP9):=by simp only [xq_,qZ,jC,eu]
 unfold bJ.ask;by_cases h:d.step=1
 ·simp only [Nat.reduceLT,Int.reduceEq,Nat.reduceAdd,Nat.reduceLeDiff,aO,xq_,hq_,Et,aG,bJ.av,g,h,b,AL,Pkt.av,e]
 ·by_cases i:d.step=2
  ·simp only [Nat.reduceLT,Int.reduceEq,Nat.reduceAdd,Nat.reduceLeDiff,aO,xq_,hq_,Et,pW,aG,bJ.av,g,i,b,AL,Pkt.av,e]
  ·by_cases j:d.step=3
   ·simp only [Nat.reduceLT,Int.reduceEq,Nat.reduceAdd,Nat.reduceLeDiff,aO,xq_,hq_,Et,pW,aG,bJ.av,g,j,b,AL,Pkt.av,e]
   ·by_cases m:d.step=4
    ·simp only [Nat.reduceLT,Int.reduceEq,Nat.reduceAdd,Nat.reduceLeDiff,aO,xq_,hq_,Et,pW,aG,bJ.av,g,m,b,AL,Pkt.av,e,ckN]
    ·by_cases o:d.step=5
     ·simp only [Nat.reduceLT,Int.reduceEq,Nat.reduceAdd,Nat.reduceLeDiff,aO,xq_,hq_,Et,pW,aG,bJ.av,g,o,b,AL,Pkt.av,e,ckN]
     ·by_cases p:d.step=6
      ·have y:decide (d.data≠[])=decide ((0:Int)<d.data.length):=by
        cases d.data with
        |nil=>rfl
        |cons a l=>
         have:(0:Int)<((a::l).length:Int):=by simp only [zam];omega
         simp only [this,ne_eq,decide_true];rfl
       simp only [Nat.reduceLT,Int.reduceEq,Nat.reduceAdd,Nat.reduceLeDiff,aO,xq_,hq_,Et,pW,aG,bJ.av,g,p,b,AL,Pkt.av,u,v,y,ckN,apk]
      ·simp only [Nat.reduceLT,Nat.reduceAdd,Nat.reduceLeDiff,aO,xq_,hq_,Et,aG,bJ.av,g,h,i,j,m,o,p,b,w,fP]
abbrev Lcl:=Nat->Option (List AV)
def iR(ls:Lcl)(r:Nat)(xs:List AV):Lcl:=λx=>if x=r then some xs else ls x
def noL:Lcl:=λ_=>none
def lay(g:bD)(ls:Lcl):bD:=λq=>match ls q with
 |some xs=>some (xs.map Cell.av)
 |none=>g q
structure Loc(b:Nat)(K:ah)(g:bD)(ls:Lcl):Prop where
 good:Good b K (lay g ls)
 free:∀r,ls r≠none->g r=none
section
variable {b:Nat}{K:ah}{g:bD}{ls:Lcl}{r q:Nat}{xs:List AV}
def ak:iR ls r xs r=some xs:=by simp [iR]
def aB {x:Nat}(h:x≠r):iR ls r xs x=ls x:=by simp [iR,h]
def acj:lay g (iR ls r xs)=upd (lay g ls) r (xs.map Cell.av):=by
 funext x
 simp only [lay,iR,upd];by_cases h:x=r
 ·simp [h]
 ·simp [h]
def OV {cs:List Cell}(h:ls q=none):lay (upd g q cs) ls=upd (lay g ls) q cs:=by
 funext x
 simp only [lay,upd];by_cases b:x=q
 ·subst b;simp [h]
 ·simp [b]
def Loc.of(G:Good b K g):Loc b K g noL:=⟨G,λ_ h=>absurd rfl h⟩
def Loc.out(L:Loc b K g ls):Good b K g:=L.good.sub λq cs h=>by
 unfold lay;cases d:ls q with
 |none=>exact h
 |some xs=>rw [L.free q (by rw [d];simp)] at h;cases h
def Loc.new(L:Loc b K g ls)(o:gG):Loc b (K.new o) g ls:=⟨L.good.new o,L.free⟩
def Loc.newL(L:Loc b K g ls){ty:TypeId}(hc:xs.all AV.aP=true)(hr:r=K.next)(ht:ty<iw:=by decide):Loc b (K.new (.blk 0 ty xs)) g (iR ls r xs):=by
 subst hr;refine⟨by rw [acj];exact L.good.newObj hc ht,λx hx=>?_⟩;by_cases h:x=K.next
 ·rw [h];exact L.out.isNone (zac _)
 ·rw [aB h] at hx;exact L.free x hx
def qK(h:ls r=some xs):lay g ls r=some (xs.map Cell.av):=by simp [lay,h]
def Loc.at_(L:Loc b K g ls){cs:List Cell}(h:g q=some cs):lay g ls q=some cs/\ls q=none:=by
 cases d:ls q with
 |none=>exact⟨by simp [lay,d,h],rfl⟩
 |some xs=>rw [L.free q (by rw [d];simp)] at h;cases h
def Loc.obj(L:Loc b K g ls){cs:List Cell}(h:g q=some cs):lay g ls q=some cs:=(L.at_ h).1
def Loc.ld(L:Loc b K g ls)(h:ls r=some xs){i:Nat}{v:AV}(hi:xs[i]?=some v):ld (.ref r 0 i) K=some (v,K):=
 L.good.load (qK h) (i:=i) (x:=v) (by rw [zaH,hi];rfl)
def Loc.lda(L:Loc b K g ls)(h:ls r=some xs){i n:Nat}{ys:List AV}(hi:(xs.drop i).take n=ys)(d:ys.length=n)(e:0<n):lda n (.ref r 0 i) K=some (.agg ys,K):=
 L.good.loads (qK h) (i:=i) (n:=n) (xs:=ys) (by rw [<-hi,zcI,zdL]) d e
def Yv {i:Nat}{vs:List AV}:qH (xs.map Cell.av) i vs=(aO xs i vs).map Cell.av:=by
 simp only [qH,aO,zbi,zcI,zdL]
def Loc.ajT(L:Loc b K g ls)(h:ls r=some xs){K':ah}{ys:List AV}(G:Good b K' (upd (lay g ls) r (ys.map Cell.av))):Loc b K' g (iR ls r ys):=by
 refine⟨by rw [acj];exact G,λx d=>?_⟩;by_cases e:x=r
 ·subst e;exact L.free x (by rw [h];simp)
 ·rw [aB e] at d;exact L.free x d
def Loc.st(L:Loc b K g ls)(hb:K.base<=b)(h:ls r=some xs){i:Nat}{v:AV}(hi:i<xs.length)(hv:One v):∃K',st 1 (.ref r 0 i) v K=some (bg,K')/\Loc b K' g (iR ls r (xs.set i v))/\Step b K K':=by
 obtain⟨K',e,d,j,k⟩:=L.good.store hb (qK h) (i:=i) (by simpa using hi) hv;rw [<-List.map_set] at d;exact⟨K',e,L.ajT h d,j⟩
def Loc.sta(L:Loc b K g ls)(hb:K.base<=b)(h:ls r=some xs){i n:Nat}{vs:List AV}(hi:i+n<=xs.length)(e:vs.length=n)(hv:vs.all AV.aP=true):∃K',Proofs.YtljogojaihgdlaaGreat.st n (.ref r 0 i) (.agg vs) K=some (bg,K')/\Loc b K' g (iR ls r (aO xs i vs))/\Step b K K':=by
 obtain⟨K',j,d,k,m⟩:=L.good.stores hb (qK h) (i:=i) (by simpa using hi) e hv;rw [Yv] at d;exact⟨K',j,L.ajT h d,k⟩
def acn {vs:List AV}(h:vs.length=xs.length):aO xs 0 vs=vs:=by
 unfold aO;rw [zdE,zaM,za5,zaV V,zbm]
def Loc.whole(L:Loc b K g ls)(hb:K.base<=b)(h:ls r=some xs){n:Nat}{vs:List AV}(o:xs.length=n)(e:vs.length=n)(j:0<n)(hv:vs.all AV.aP=true):∃K',Proofs.YtljogojaihgdlaaGreat.st n (.ref r 0 0) (.agg vs) K=some (bg,K')/\Proofs.YtljogojaihgdlaaGreat.lda n (.ref r 0 0) K'=some (.agg vs,K')/\Loc b K' g (iR ls r vs)/\Step b K K':=by
 obtain⟨K',k,d,m⟩:=L.sta hb h (i:=0) (n:=n) (vs:=vs) V e hv;rw [acn V] at d;exact⟨K',k,d.lda ak (i:=0) (n:=n) (by rw [zaS,zau V]) e j,d,m⟩
def Loc.call(L:Loc b K g ls){d cs:List Cell}(k:g q=some d){K':ah}(G:Good b K' (upd (lay g ls) q cs)):Loc b K' (upd g q cs) ls:=by
 obtain⟨m,i⟩:=L.at_ k;refine⟨by rw [OV i];exact G,λr j=>?_⟩;have h:r≠q:=λe=>by subst e;exact j i
 rw [bn h];exact L.free r j
def Good.exact {b:Nat}{K:ah}{g:bD}{r:Nat}{xs:List AV}(G:Good b K g)(h:g r=some (xs.map Cell.av)):∃ty,K.get r=.blk 0 ty xs/\ty<iw:=by
 obtain⟨_,τ,m⟩:=G;have R:=m r _ h;obtain⟨ty,d,e,j,p,o⟩:=R.blk;have:d=xs:=by
  apply zbe
  intro i;rcases zaR i xs.length with hi|hi
  ·have k:d[i]?=some (d[i]'(by simp at j;omega)):=zab _;have:=o i (.av xs[i]) _ (by simp [hi]) k;simp only [CR] at this;rw [k,this];simp [hi]
  ·rw [zaG (by simp at j;omega),zaG hi]
 subst this;exact⟨ty,e,R.tyl _ _ _ e⟩
def Xc {b:Nat}{K K':ah}{g g':bD}{r:Nat}{xs:List AV}(G:Good b K g)(G':Good b K' g')(hk:Keeps K K')(h:g r=some (xs.map Cell.av))(j:g' r=some (xs.map Cell.av)):K'.get r=K.get r:=by
 have m:=G.lt h;obtain⟨u,d,v⟩:=G.exact h;obtain⟨o,e,p⟩:=G'.exact j;obtain⟨w,q,y,i,k⟩:=hk.types r m _ _ _ d;rw [e] at i;cases i;rcases k with rfl|k
 ·rw [d,e]
 ·exact absurd k (Nat.not_le.2 p)
end
structure COk(ca:Cache):Prop where
 len:ca.l.length<1000000
 sets:1<=ca.sets
 clk:0<=ca.dh/\ca.dh<1000000000
 dat:∀e∈ca.l,e.data.length<1000000000
 used:∀e∈ca.l,0<=e.used/\e.used<1000000000
def BN {b:Nat}{H:ah}{g:bD}{q:Nat}(G:Good b H g)(hb:H.base<=b){c:Cache}(h:g q=some (dH c))(C:COk c)(e:Ent)(d:e.data.length<1000000000):
  ∃H',cl 121 [.ref q 0 0,.agg e.av] H=some (I (c.put e).2,H')/\Good b H' (upd g q (dH (c.put e).1))/\Step b H H':=
 WU G hb h C.len C.sets C.clk e d (qN _ e.data)
def uP(n:Nxt):AV:=.tup [.agg n.2.1.av,B n.2.2]
abbrev zD9:List AV:=[zI,zI,zI,zI,zI,zI,zN,zI,zI]
def EC:dat ([]:List Int)=zN:=by simp [dat,gQ]
section
variable {b:Nat}{H:ah}{g:bD}{q:Nat}{ca:Cache}
def ajX(G:Good b H g)(hb:H.base<=b)(h:g q=some (dH ca))(C:COk ca)(d:bJ)(bF:Int)(p:Pkt)(hp:p.data.length<1000000000):
  ∃H',cl 157 [.agg d.av,I bF,.ref q 0 0,.agg p.av] H=some (uP ((ca.put ⟨d.head,-1,d.aj,0,false,p.data⟩).1,{ d with step:=6,aW:=1,head:=bF,data:=if p.flag then p.data else [] },true),H')/\
   Good b H' (upd g q (dH (ca.put ⟨d.head,-1,d.aj,0,false,p.data⟩).1))/\Step b H H':=by
 refine kS rfl rfl (aod _ _ _ _ _ _) ?_;have L1:=(Loc.of G).newL (ty:=44) (xs:=d.av) (r:=H.next) (bG d) rfl;have L2:=L1.newL (ty:=112) (xs:=p.av) (r:=H.next+1) (aV p) (by rw [fB]);have L3:=L2.newL (ty:=44) (xs:=zD9) (r:=H.next+1+1) rfl (by rw [fB,fB]);have s3:Step b H _:=((Step.new (.blk 0 44 d.av) G.1).trans (Step.new (.blk 0 112 p.av) L1.good.1)).trans (Step.new (.blk 0 44 zD9) L2.good.1);have d1:=L3.ld (r:=H.next) (i:=1) (v:=I d.aj) (by first|exact ak|(rw [aB (by omega)];first|exact ak|(rw [aB (by omega)];first|exact ak|(rw [aB (by omega)];first|exact ak|(rw [aB (by omega)];first|exact ak|(rw [aB (by omega)];exact ak)))))) rfl;have d5:=L3.ld (r:=H.next) (i:=5) (v:=I d.head) (by first|exact ak|(rw [aB (by omega)];first|exact ak|(rw [aB (by omega)];first|exact ak|(rw [aB (by omega)];first|exact ak|(rw [aB (by omega)];first|exact ak|(rw [aB (by omega)];exact ak)))))) rfl;have p8:=L3.ld (r:=H.next+1) (i:=8) (v:=dat p.data) (by first|exact ak|(rw [aB (by omega)];first|exact ak|(rw [aB (by omega)];first|exact ak|(rw [aB (by omega)];first|exact ak|(rw [aB (by omega)];first|exact ak|(rw [aB (by omega)];exact ak)))))) rfl;have e1:=λH=>ab1 H d.aj d.head (-1) false hp (qN H p.data);obtain⟨K1,a1,a2,a3⟩:=BN L3.good (by rw [s3.base];exact hb) (L3.obj h) C ⟨d.head,-1,d.aj,0,false,p.data⟩ hp;have M1:=L3.call h a2;have t1:=s3.trans a3;obtain⟨K2,u2,M2,w2⟩:=M1.st (by rw [t1.base];exact hb) (r:=H.next) (by first|exact ak|(rw [aB (by omega)];first|exact ak|(rw [aB (by omega)];first|exact ak|(rw [aB (by omega)];first|exact ak|(rw [aB (by omega)];first|exact ak|(rw [aB (by omega)];exact ak)))))) (i:=3) (v:=I 6) (by simp [bJ.av]) dP;have t2:=t1.trans w2;obtain⟨K3,u3,M3,w3⟩:=M2.st (by rw [t2.base];exact hb) (r:=H.next) (by first|exact ak|(rw [aB (by omega)];first|exact ak|(rw [aB (by omega)];first|exact ak|(rw [aB (by omega)];first|exact ak|(rw [aB (by omega)];first|exact ak|(rw [aB (by omega)];exact ak)))))) (i:=4) (v:=I 1) (by simp [bJ.av]) dP;have t3:=t2.trans w3;obtain⟨K4,u4,M4,w4⟩:=M3.st (by rw [t3.base];exact hb) (r:=H.next) (by first|exact ak|(rw [aB (by omega)];first|exact ak|(rw [aB (by omega)];first|exact ak|(rw [aB (by omega)];first|exact ak|(rw [aB (by omega)];first|exact ak|(rw [aB (by omega)];exact ak)))))) (i:=5) (v:=I bF) (by simp [bJ.av]) dP;have t4:=t3.trans w4;obtain⟨K5,u5,M5,w5⟩:=M4.st (by rw [t4.base];exact hb) (r:=H.next) (by first|exact ak|(rw [aB (by omega)];first|exact ak|(rw [aB (by omega)];first|exact ak|(rw [aB (by omega)];first|exact ak|(rw [aB (by omega)];first|exact ak|(rw [aB (by omega)];exact ak)))))) (i:=6) (v:=zN) (by simp [bJ.av]) qw;have t5:=t4.trans w5
 have p7:=M5.ld (r:=H.next+1) (i:=7) (v:=B p.flag) (by first|exact ak|(rw [aB (by omega)];first|exact ak|(rw [aB (by omega)];first|exact ak|(rw [aB (by omega)];first|exact ak|(rw [aB (by omega)];first|exact ak|(rw [aB (by omega)];exact ak)))))) rfl;cases hf:p.flag with
 |true=>
  rw [hf] at p7;have q8:=M5.ld (r:=H.next+1) (i:=8) (v:=dat p.data) (by first|exact ak|(rw [aB (by omega)];first|exact ak|(rw [aB (by omega)];first|exact ak|(rw [aB (by omega)];first|exact ak|(rw [aB (by omega)];first|exact ak|(rw [aB (by omega)];exact ak)))))) rfl;have e2:=λH=>kD H p.data hp;obtain⟨K6,u6,M6,w6⟩:=M5.st (by rw [t5.base];exact hb) (r:=H.next) (by first|exact ak|(rw [aB (by omega)];first|exact ak|(rw [aB (by omega)];first|exact ak|(rw [aB (by omega)];first|exact ak|(rw [aB (by omega)];first|exact ak|(rw [aB (by omega)];exact ak)))))) (i:=6) (v:=dat p.data) (by simp [bJ.av]) tJ;have t6:=t5.trans w6;have f1:=M6.lda (r:=H.next) (by first|exact ak|(rw [aB (by omega)];first|exact ak|(rw [aB (by omega)];first|exact ak|(rw [aB (by omega)];first|exact ak|(rw [aB (by omega)];first|exact ak|(rw [aB (by omega)];exact ak)))))) (i:=0) (n:=9) (ys:=(bJ.mk d.aS d.aj d.id 6 1 bF p.data d.next d.told).av) rfl rfl (by decide);obtain⟨K7,u7,v7,M7,w7⟩:=M6.whole (by rw [t6.base];exact hb) (r:=H.next+1+1) (by first|exact ak|(rw [aB (by omega)];first|exact ak|(rw [aB (by omega)];first|exact ak|(rw [aB (by omega)];first|exact ak|(rw [aB (by omega)];first|exact ak|(rw [aB (by omega)];exact ak)))))) (n:=9) (vs:=(bJ.mk d.aS d.aj d.id 6 1 bF p.data d.next d.told).av) rfl rfl (by decide) (bG _);refine⟨K7,?_,M7.out,t6.trans w7⟩;simp only [Nat.reduceLT,Int.reduceNeg,xq_,aa5,FT,aG (bG d),aG (aV p),d1,d5,p8,e1,a1,u2,u3,u4,u5,p7,q8,e2,u6,f1,u7,v7,uP]
 |false=>
  rw [hf] at p7;have f1:=M5.lda (r:=H.next) (by first|exact ak|(rw [aB (by omega)];first|exact ak|(rw [aB (by omega)];first|exact ak|(rw [aB (by omega)];first|exact ak|(rw [aB (by omega)];first|exact ak|(rw [aB (by omega)];exact ak)))))) (i:=0) (n:=9) (ys:=(bJ.mk d.aS d.aj d.id 6 1 bF [] d.next d.told).av) (by simp only [bJ.av,EC];rfl) rfl (by decide);obtain⟨K7,u7,v7,M7,w7⟩:=M5.whole (by rw [t5.base];exact hb) (r:=H.next+1+1) (by first|exact ak|(rw [aB (by omega)];first|exact ak|(rw [aB (by omega)];first|exact ak|(rw [aB (by omega)];first|exact ak|(rw [aB (by omega)];first|exact ak|(rw [aB (by omega)];exact ak)))))) (n:=9) (vs:=(bJ.mk d.aS d.aj d.id 6 1 bF [] d.next d.told).av) rfl rfl (by decide) (bG _);refine⟨K7,?_,M7.out,t5.trans w7⟩;simp only [Nat.reduceLT,Int.reduceNeg,xq_,aa5,FT,aG (bG d),aG (aV p),d1,d5,p8,e1,a1,u2,u3,u4,u5,p7,f1,u7,v7,uP]
def vY(d:bJ)(bF:Int)(c:Cache)(p:Pkt):Nxt:=
 if p.aW≠0 then(c,{ d with aW:=p.aW,head:=p.ptr,told:=p.ptr,data:=p.data,step:=2 },true)
 else((c.put ⟨-1,-1,d.aj,0,false,p.data⟩).1,{ d with told:=p.ptr,step:=6,aW:=1,head:=bF,data:=[] },true)
def aco(G:Good b H g)(hb:H.base<=b)(h:g q=some (dH ca))(C:COk ca)(d:bJ)(bF:Int)(p:Pkt)(hp:p.data.length<1000000000):
  ∃H',cl 156 [.agg d.av,I bF,.ref q 0 0,.agg p.av] H=some (uP (vY d bF ca p),H')/\Good b H' (upd g q (dH (vY d bF ca p).1))/\Step b H H':=by
 have hb0:H.base<=H.next:=zax hb G.1
 have e2:=λH=>kD H p.data hp;refine kS rfl rfl (aoc _ _ _ _ _ _) ?_;by_cases hs:p.aW=0;rotate_left
 ·have hm:vY d bF ca p=(ca,{ d with aW:=p.aW,head:=p.ptr,told:=p.ptr,data:=p.data,step:=2 },true):=by simp only [vY];rw [if_pos hs]
  rw [hm];refine⟨((H.new (.blk 0 44 (bJ.mk d.aS d.aj d.id 2 p.aW p.ptr p.data d.next p.ptr).av)).new (.blk 0 112 p.av)).new (.blk 0 44 (bJ.mk d.aS d.aj d.id 2 p.aW p.ptr p.data d.next p.ptr).av),?_,by rw [fQ h];exact((G.new _).new _).new _,((Step.new _ G.1).trans (Step.new _ (G.new _).1)).trans (Step.new _ ((G.new _).new _).1)⟩;simp only [Nat.reduceLT,Int.reduceNeg,Nat.reduceAdd,Nat.reduceLeDiff,aO,xq_,hq_,aa4,aG,bJ.av,Pkt.av,e2,hb0,ckM,hs,zal,uP]
 ·have hm:vY d bF ca p=((ca.put ⟨-1,-1,d.aj,0,false,p.data⟩).1,{ d with told:=p.ptr,step:=6,aW:=1,head:=bF,data:=[] },true):=by simp only [vY];rw [if_neg (λh=>h hs)]
  rw [hm];let d2:bJ:=bJ.mk d.aS d.aj d.id d.step p.aW p.ptr p.data d.next p.ptr
  have L1:=(Loc.of G).newL (ty:=44) (xs:=d2.av) (r:=H.next) (bG d2) rfl;have L2:=L1.newL (ty:=112) (xs:=p.av) (r:=H.next+1) (aV p) (by rw [fB]);have L3:=L2.newL (ty:=44) (xs:=zD9) (r:=H.next+1+1) rfl (by rw [fB,fB]);have s3:Step b H _:=((Step.new (.blk 0 44 d2.av) G.1).trans (Step.new (.blk 0 112 p.av) L1.good.1)).trans (Step.new (.blk 0 44 zD9) L2.good.1);have e1:=λH=>ab1 H d.aj (-1) (-1) false hp (qN H p.data);obtain⟨K1,a1,a2,a3⟩:=BN L3.good (by rw [s3.base];exact hb) (L3.obj h) C ⟨-1,-1,d.aj,0,false,p.data⟩ hp;have M1:=L3.call h a2;have t1:=s3.trans a3;obtain⟨K2,u2,M2,w2⟩:=M1.st (by rw [t1.base];exact hb) (r:=H.next) (by first|exact ak|(rw [aB (by omega)];first|exact ak|(rw [aB (by omega)];first|exact ak|(rw [aB (by omega)];first|exact ak|(rw [aB (by omega)];first|exact ak|(rw [aB (by omega)];exact ak)))))) (i:=3) (v:=I 6) (by simp [bJ.av]) dP;have t2:=t1.trans w2;obtain⟨K3,u3,M3,w3⟩:=M2.st (by rw [t2.base];exact hb) (r:=H.next) (by first|exact ak|(rw [aB (by omega)];first|exact ak|(rw [aB (by omega)];first|exact ak|(rw [aB (by omega)];first|exact ak|(rw [aB (by omega)];first|exact ak|(rw [aB (by omega)];exact ak)))))) (i:=4) (v:=I 1) (by simp [bJ.av]) dP;have t3:=t2.trans w3;obtain⟨K4,u4,M4,w4⟩:=M3.st (by rw [t3.base];exact hb) (r:=H.next) (by first|exact ak|(rw [aB (by omega)];first|exact ak|(rw [aB (by omega)];first|exact ak|(rw [aB (by omega)];first|exact ak|(rw [aB (by omega)];first|exact ak|(rw [aB (by omega)];exact ak)))))) (i:=5) (v:=I bF) (by simp [bJ.av]) dP;have t4:=t3.trans w4;obtain⟨K5,u5,M5,w5⟩:=M4.st (by rw [t4.base];exact hb) (r:=H.next) (by first|exact ak|(rw [aB (by omega)];first|exact ak|(rw [aB (by omega)];first|exact ak|(rw [aB (by omega)];first|exact ak|(rw [aB (by omega)];first|exact ak|(rw [aB (by omega)];exact ak)))))) (i:=6) (v:=zN) (by simp [bJ.av]) qw;have t5:=t4.trans w5;have f1:=M5.lda (r:=H.next) (by first|exact ak|(rw [aB (by omega)];first|exact ak|(rw [aB (by omega)];first|exact ak|(rw [aB (by omega)];first|exact ak|(rw [aB (by omega)];first|exact ak|(rw [aB (by omega)];exact ak)))))) (i:=0) (n:=9) (ys:=(bJ.mk d.aS d.aj d.id 6 1 bF [] d.next p.ptr).av) (by simp only [bJ.av,EC];rfl) rfl (by decide);obtain⟨K7,u7,v7,M7,w7⟩:=M5.whole (by rw [t5.base];exact hb) (r:=H.next+1+1) (by first|exact ak|(rw [aB (by omega)];first|exact ak|(rw [aB (by omega)];first|exact ak|(rw [aB (by omega)];first|exact ak|(rw [aB (by omega)];first|exact ak|(rw [aB (by omega)];exact ak)))))) (n:=9) (vs:=(bJ.mk d.aS d.aj d.id 6 1 bF [] d.next p.ptr).av) rfl rfl (by decide) (bG _);refine⟨K7,?_,M7.out,t5.trans w7⟩;simp only [d2,bJ.av,Pkt.av,hs,EC] at a1 f1 u7 v7;simp only [Nat.reduceLT,Int.reduceNeg,Nat.reduceAdd,Nat.reduceLeDiff,aO,xq_,hq_,aa4,aG,bJ.av,Pkt.av,e2,hb0,ckM,hs,zae,e1,a1,u2,u3,u4,u5,f1,u7,v7,uP,EC]
def vZ(G:Good b H g)(d:bJ)(p:Pkt):∃ls:Lcl,Loc b (((H.new (.blk 0 44 d.av)).new (.blk 0 112 p.av)).new (.blk 0 44 zD9)) g ls/\ls H.next=some d.av/\ls (H.next+1)=some p.av/\ls (H.next+1+1)=some zD9/\
  Step b H (((H.new (.blk 0 44 d.av)).new (.blk 0 112 p.av)).new (.blk 0 44 zD9)):=by
 have L1:=(Loc.of G).newL (ty:=44) (xs:=d.av) (r:=H.next) (bG d) rfl;have L2:=L1.newL (ty:=112) (xs:=p.av) (r:=H.next+1) (aV p) (by rw [fB]);have L3:=L2.newL (ty:=44) (xs:=zD9) (r:=H.next+1+1) rfl (by rw [fB,fB]);exact⟨_,L3,(by first|exact ak|(rw [aB (by omega)];first|exact ak|(rw [aB (by omega)];first|exact ak|(rw [aB (by omega)];first|exact ak|(rw [aB (by omega)];first|exact ak|(rw [aB (by omega)];exact ak)))))),(by first|exact ak|(rw [aB (by omega)];first|exact ak|(rw [aB (by omega)];first|exact ak|(rw [aB (by omega)];first|exact ak|(rw [aB (by omega)];first|exact ak|(rw [aB (by omega)];exact ak)))))),(by first|exact ak|(rw [aB (by omega)];first|exact ak|(rw [aB (by omega)];first|exact ak|(rw [aB (by omega)];first|exact ak|(rw [aB (by omega)];first|exact ak|(rw [aB (by omega)];exact ak)))))),((Step.new (.blk 0 44 d.av) G.1).trans (Step.new (.blk 0 112 p.av) L1.good.1)).trans (Step.new (.blk 0 44 zD9) L2.good.1)⟩
def acp(G:Good b H g)(hb:H.base<=b)(h:g q=some (dH ca))(C:COk ca)(d:bJ)(bF:Int)(p:Pkt)(hp:p.data.length<1000000000):
  ∃H',cl 114 [.agg d.av,I bF,.ref q 0 0,.agg p.av] H=some (uP (dY d bF ca p),H')/\Good b H' (upd g q (dH (dY d bF ca p).1))/\Step b H H':=by
 refine kS rfl rfl (ano _ _ _ _ _ _) ?_;obtain⟨ls,L,k0,k1,k2,s⟩:=vZ G d p;have d0:=L.ld k0 (i:=0) (v:=I d.aS) rfl;have d3:=L.ld k0 (i:=3) (v:=I d.step) rfl;have dA:=L.lda k0 (i:=0) (n:=9) (ys:=d.av) rfl rfl (by decide);have pA:=L.lda k1 (i:=0) (n:=9) (ys:=p.av) rfl rfl (by decide);have hf:=λH=>UO H d p;have ez:bd 44 []=some (.agg zD9):=by simp only [xq_,XR,jC,eu]
 have hbK:(((H.new (.blk 0 44 d.av)).new (.blk 0 112 p.av)).new (.blk 0 44 zD9)).base<=b:=by rw [s.base];exact hb
 obtain⟨Kz,z1,z2,z3,z4⟩:=L.whole hbK k2 (n:=9) (vs:=zD9) rfl rfl (by decide) rfl;have no:wM ca=(ca,.zero,false):=rfl;have zu:Good b Kz (upd g q (dH ca)):=by rw [fQ h];exact z3.out
 by_cases h1:d.aS≠1∨d.fits p=false
 ·have hm:dY d bF ca p=(ca,.zero,false):=by simp only [dY];rw [if_pos h1];rfl
  rw [hm];refine⟨Kz,?_,zu,s.trans z4⟩;by_cases hk:d.aS=1
  ·have hff:d.fits p=false:=h1.resolve_left (λh=>h hk);rw [hk] at d0;simp only [Nat.reduceLT,xq_,IL,aG (bG d),aG (aV p),d0,dA,pA,hf,hff,zae,zal,ez,z1,z2,uP,mM]
  ·simp only [Nat.reduceLT,xq_,IL,aG (bG d),aG (aV p),d0,hk,zal,ez,z1,z2,uP,mM]
 ·have hk:d.aS=1:=Classical.byContradiction λh=>h1 (.inl h);have hff:d.fits p=true:=by cases hx:d.fits p <;> simp_all
  rw [hk] at d0;by_cases s1:d.step=1
  ·have hm:dY d bF ca p=vY d bF ca p:=by simp only [dY,vY];rw [if_neg h1,if_pos s1]
   rw [hm];rw [s1] at d3;obtain⟨K1,a1,a2,a3⟩:=aco L.good hbK (L.obj h) C d bF p hp;have M:=L.call h a2;obtain⟨K2,u1,u2,u3,u4⟩:=M.whole (by rw [a3.base];exact hbK) k2 (n:=9) (vs:=(vY d bF ca p).2.1.av) rfl rfl (by decide) (bG _);refine⟨K2,?_,u3.out,(s.trans a3).trans u4⟩;simp only [uP] at a1;simp only [Nat.reduceLT,Int.reduceEq,xq_,IL,aG (bG d),aG (aV p),d0,dA,pA,hf,hff,zae,d3,a1,u1,u2,uP]
  ·by_cases s2:d.step=2
   ·have hm:dY d bF ca p=((ca.put ⟨d.head,-1,d.aj,0,false,p.data⟩).1,{ d with step:=6,aW:=1,head:=bF,data:=if p.flag then p.data else [] },true):=by simp only [dY];rw [if_neg h1,if_neg s1,if_pos s2]
    rw [hm];obtain⟨K1,a1,a2,a3⟩:=ajX L.good hbK (L.obj h) C d bF p hp;have M:=L.call h a2;obtain⟨K2,u1,u2,u3,u4⟩:=M.whole (by rw [a3.base];exact hbK) k2 (n:=9) (vs:=({ d with step:=6,aW:=1,head:=bF,data:=if p.flag then p.data else [] }:bJ).av) rfl rfl (by decide) (bG _);refine⟨K2,?_,u3.out,(s.trans a3).trans u4⟩;rw [s2] at d3;simp only [uP] at a1;simp only [Nat.reduceLT,Int.reduceEq,xq_,IL,aG (bG d),aG (aV p),d0,dA,pA,hf,hff,zae,d3,a1,u1,u2,uP]
   ·by_cases s6:d.step=6
    ·have hm:dY d bF ca p=(ca,{ d with step:=0 },true):=by simp only [dY];rw [if_neg h1,if_neg s1,if_neg s2,if_pos s6]
     rw [hm];obtain⟨K1,a1,M,a3⟩:=L.st hbK k0 (i:=3) (v:=I 0) (by simp [bJ.av]) dP;have k2':iR ls H.next (d.av.set 3 (I 0)) (H.next+1+1)=some zD9:=by rw [aB (by omega)];exact k2
     have dB:=M.lda ak (i:=0) (n:=9) (ys:=({ d with step:=0 }:bJ).av) rfl rfl (by decide);obtain⟨K2,u1,u2,u3,u4⟩:=M.whole (by rw [a3.base];exact hbK) k2' (n:=9) (vs:=({ d with step:=0 }:bJ).av) rfl rfl (by decide) (bG _);refine⟨K2,?_,by rw [fQ h];exact u3.out,(s.trans a3).trans u4⟩;rw [s6] at d3;simp only [Nat.reduceLT,Int.reduceEq,xq_,IL,aG (bG d),aG (aV p),d0,dA,pA,hf,hff,zae,d3,a1,dB,u1,u2,uP]
    ·have hm:dY d bF ca p=(ca,.zero,false):=by simp only [dY];rw [if_neg h1,if_neg s1,if_neg s2,if_neg s6];rfl
     rw [hm];refine⟨Kz,?_,zu,s.trans z4⟩;simp only [Nat.reduceLT,xq_,IL,aG (bG d),aG (aV p),d0,dA,pA,hf,hff,zae,d3,s1,s2,s6,ez,z1,z2,uP,mM]
end
abbrev zE6:List AV:=[zI,zI,zI,zI,zB,zN]
def pY {n r gg i:Nat}{v u:AV}{K K':ah}(h:st n (.ref r gg i) v K=some (u,K')){x:Nat}(d:x≠r):K'.get x=K.get x:=by
 unfold st at h;simp only at h;cases b:K.get r with
 |map k e=>rw [b] at h;cases h
 |blk g' g cells=>
  rw [b] at h;simp only at h;split at h
  ·simp only [zaa,zad] at h;rw [<-h.2,dV,if_neg d]
  ·cases h
section
variable {b:Nat}{H:ah}{g:bD}{q:Nat}{ca:Cache}
def wo(d:bJ)(bF:Int)(c:Cache):Cache × bJ:=
 if d.next≠-1 then(c,{ d with step:=3 })
 else((c.put ⟨-1,-1,d.aj,0,true,d.data⟩).1,{ d with step:=6,aW:=2,head:=bF,data:=[] })
def DN {K:ah}{ls:Lcl}(L:Loc b K g ls)(hb:K.base<=b)(h:g q=some (dH ca))(C:COk ca)(d:bJ)(bF:Int)(hd:d.data.length<1000000000){r r':Nat}(hrr:r≠r')(k0:ls r=some d.av)(k1:ls r'=some zD9):
  ∃H',BA cl (I bF) (.ref q 0 0) (.ref r 0 0) (.ref r' 0 0) K=some (.agg (wo d bF ca).2.av,H')/\Good b H' (upd g q (dH (wo d bF ca).1))/\Step b K H':=by
 have d7:=L.ld k0 (i:=7) (v:=I d.next) rfl;by_cases hn:d.next=-1
 rotate_left
 ·have hm:wo d bF ca=(ca,{ d with step:=3 }):=by unfold wo;rw [if_pos hn]
  rw [hm];obtain⟨K1,a1,M1,a3⟩:=L.st hb k0 (i:=3) (v:=I 3) (by simp [bJ.av]) dP;have k2':iR ls r (d.av.set 3 (I 3)) r'=some zD9:=by rw [aB hrr.symm];exact k1
  have dB:=M1.lda ak (i:=0) (n:=9) (ys:=({ d with step:=3 }:bJ).av) rfl rfl (by decide);obtain⟨K2,u1,u2,u3,u4⟩:=M1.whole (by rw [a3.base];exact hb) k2' (n:=9) (vs:=({ d with step:=3 }:bJ).av) rfl rfl (by decide) (bG _);refine⟨K2,?_,by rw [fQ h];exact u3.out,a3.trans u4⟩;simp only [Int.reduceNeg,xq_,BA,d7,hn,zal,a1,dB,u1,u2]
 ·have hm:wo d bF ca=((ca.put ⟨-1,-1,d.aj,0,true,d.data⟩).1,{ d with step:=6,aW:=2,head:=bF,data:=[] }):=by unfold wo;rw [if_neg (λh=>h hn)]
  rw [hm];have d1:=L.ld k0 (i:=1) (v:=I d.aj) rfl;have d6:=L.ld k0 (i:=6) (v:=dat d.data) rfl;have e1:=λH=>ab1 H d.aj (-1) (-1) true hd (qN H d.data);obtain⟨K1,a1,a2,a3⟩:=BN L.good hb (L.obj h) C ⟨-1,-1,d.aj,0,true,d.data⟩ hd;have M1:=L.call h a2;obtain⟨K2,u2,M2,w2⟩:=M1.st (by rw [a3.base];exact hb) k0 (i:=3) (v:=I 6) (by simp [bJ.av]) dP;have t2:=a3.trans w2;obtain⟨K3,u3,M3,w3⟩:=M2.st (by rw [t2.base];exact hb) ak (i:=4) (v:=I 2) (by simp [bJ.av]) dP;have t3:=t2.trans w3;obtain⟨K4,u4,M4,w4⟩:=M3.st (by rw [t3.base];exact hb) ak (i:=5) (v:=I bF) (by simp [bJ.av]) dP;have t4:=t3.trans w4;obtain⟨K5,u5,M5,w5⟩:=M4.st (by rw [t4.base];exact hb) ak (i:=6) (v:=zN) (by simp [bJ.av]) qw;have t5:=t4.trans w5;have f1:=M5.lda ak (i:=0) (n:=9) (ys:=(bJ.mk d.aS d.aj d.id 6 2 bF [] d.next d.told).av) (by simp only [bJ.av,EC];rfl) rfl (by decide);have hne:r'≠r:=hrr.symm;obtain⟨K7,u7,v7,M7,w7⟩:=M5.whole (by rw [t5.base];exact hb) (r:=r') (xs:=zD9) (by rw [aB hne,aB hne,aB hne,aB hne];exact k1) (n:=9) (vs:=(bJ.mk d.aS d.aj d.id 6 2 bF [] d.next d.told).av) rfl rfl (by decide) (bG _);refine⟨K7,?_,M7.out,t5.trans w7⟩;simp only [hn] at u7 v7;simp only [Int.reduceNeg,xq_,BA,d7,hn,zae,d1,d6,e1,a1,u2,u3,u4,u5,f1,u7,v7]
def ajY(G:Good b H g)(hb:H.base<=b)(h:g q=some (dH ca))(C:COk ca)(d:bJ)(bF:Int)(hd:d.data.length<1000000000):
  ∃H',cl 158 [.agg d.av,I bF,.ref q 0 0] H=some (.agg (dG d bF ca).2.av,H')/\Good b H' (upd g q (dH (dG d bF ca).1))/\Step b H H':=by
 refine kS rfl rfl (aoe _ _ _ _ _) ?_;have L1:=(Loc.of G).newL (ty:=44) (xs:=d.av) (r:=H.next) (bG d) rfl;have L2:=L1.newL (ty:=44) (xs:=zD9) (r:=H.next+1) rfl (by rw [fB]);have d1:=L2.ld (r:=H.next) (i:=1) (v:=I d.aj) (by(repeat rw [aB (by omega)]);first|exact k0|exact k1|exact k2|rw [ak]) rfl;have ef:=rH L2.good (L2.obj h) C.len C.dat d.aj;have L3:=L2.newL (ty:=166) (xs:=zE6) (r:=H.next+1+1) rfl (by rw [fB,fB]);have s3:Step b H _:=((Step.new (.blk 0 44 d.av) G.1).trans (Step.new (.blk 0 44 zD9) L1.good.1)).trans (Step.new (.blk 0 166 zE6) L2.good.1);obtain⟨K1,z1,z2,M,z4⟩:=L3.whole (by rw [s3.base];exact hb) (r:=H.next+1+1) (xs:=zE6) (by(repeat rw [aB (by omega)]);first|exact k0|exact k1|exact k2|rw [ak]) (n:=6) (vs:=((ca.find d.aj).getD .zero).av) rfl rfl (by decide) (lU _);have t1:=s3.trans z4;have d7:=M.ld (r:=H.next) (i:=7) (v:=I d.next) (by(repeat rw [aB (by omega)]);first|exact k0|exact k1|exact k2|rw [ak]) rfl;simp only [qh] at ef;cases hfd:ca.find d.aj with
 |none=>
  have hm:dG d bF ca=wo d bF ca:=by simp only [dG,hfd];rfl
  rw [hm];rw [hfd] at ef z1;simp only [zaK] at ef;obtain⟨K2,u1,u2,u3⟩:=DN M (by rw [t1.base];exact hb) h C d bF hd (r:=H.next) (r':=H.next+1) (by omega) (by(repeat rw [aB (by omega)]);first|exact k0|exact k1|exact k2|rw [ak]) (by(repeat rw [aB (by omega)]);first|exact k0|exact k1|exact k2|rw [ak]);refine⟨K2,?_,u2,t1.trans u3⟩;by_cases hn:d.next=bF
  ·rw [hn] at d7;simp only [Nat.reduceLT,xq_,QT,aG (bG d),d1,ef,z1,d7];exact u1
  ·simp only [Nat.reduceLT,xq_,QT,aG (bG d),d1,ef,z1,d7,hn];exact u1
 |some own=>
  rw [hfd] at ef z1 M;simp only [zaL,zaw] at ef z1 M;by_cases hn:d.next=bF
  ·have hm:dG d bF ca=wo { d with next:=own.fwd } bF ca:=by simp only [dG,hfd];rw [if_pos hn];rfl
   rw [hm];have e0:=M.ld (r:=H.next+1+1) (i:=0) (v:=I own.fwd) (by(repeat rw [aB (by omega)]);first|exact k0|exact k1|exact k2|rw [ak]) rfl;obtain⟨K2,y1,M2,y3⟩:=M.st (by rw [t1.base];exact hb) (r:=H.next) (xs:=d.av) (by(repeat rw [aB (by omega)]);first|exact k0|exact k1|exact k2|rw [ak]) (i:=7) (v:=I own.fwd) (by simp [bJ.av]) dP;have t2:=t1.trans y3;obtain⟨K3,u1,u2,u3⟩:=DN M2 (by rw [t2.base];exact hb) h C { d with next:=own.fwd } bF hd (r:=H.next) (r':=H.next+1) (by omega) (by rw [ak];rfl) (by(repeat rw [aB (by omega)]);first|exact k0|exact k1|exact k2|rw [ak]);refine⟨K3,?_,u2,t2.trans u3⟩;rw [hn] at d7;simp only [Nat.reduceLT,xq_,QT,aG (bG d),d1,ef,z1,d7,e0,y1];exact u1
  ·have hm:dG d bF ca=wo d bF ca:=by simp only [dG,hfd];rw [if_neg hn];rfl
   rw [hm];obtain⟨K2,u1,u2,u3⟩:=DN M (by rw [t1.base];exact hb) h C d bF hd (r:=H.next) (r':=H.next+1) (by omega) (by(repeat rw [aB (by omega)]);first|exact k0|exact k1|exact k2|rw [ak]) (by(repeat rw [aB (by omega)]);first|exact k0|exact k1|exact k2|rw [ak]);refine⟨K2,?_,u2,t1.trans u3⟩;simp only [Nat.reduceLT,xq_,QT,aG (bG d),d1,ef,z1,d7,hn];exact u1
def BO {K:ah}{ls:Lcl}(L:Loc b K g ls)(hb:K.base<=b)(h:g q=some (dH ca))(C:COk ca)(d:bJ)(bF:Int)(hd:d.data.length<1000000000){r r':Nat}(k:ls r=some d.av)(k1:ls r'=some zD9):
  ∃e H',lda 9 (.ref r 0 0) K=some (.agg d.av,K)/\cl 158 [.agg d.av,I bF,.ref q 0 0] K=some (.agg (dG d bF ca).2.av,e)/\st 9 (.ref r' 0 0) (.agg (dG d bF ca).2.av) e=some (bg,H')/\
   lda 9 (.ref r' 0 0) H'=some (.agg (dG d bF ca).2.av,H')/\Good b H' (upd g q (dH (dG d bF ca).1))/\Step b K H':=by
 obtain⟨e,m,o,j⟩:=ajY L.good hb (L.obj h) C d bF hd;have M:=L.call h o;obtain⟨p,u,v,w,y⟩:=M.whole (by rw [j.base];exact hb) k1 (n:=9) (vs:=(dG d bF ca).2.av) rfl rfl Z (bG _);exact⟨e,p,L.lda k (i:=0) (n:=9) (ys:=d.av) rfl rfl Z,m,u,v,w.out,j.trans y⟩
def afb(G:Good b H g)(hb:H.base<=b)(h:g q=some (dH ca))(C:COk ca)(d:bJ)(bF:Int)(p:Pkt)(hd:d.data.length<1000000000)(hp:p.data.length<1000000000):
  ∃H',cl 115 [.agg d.av,I bF,.ref q 0 0,.agg p.av] H=some (uP (dZ d bF ca p),H')/\Good b H' (upd g q (dH (dZ d bF ca p).1))/\Step b H H':=by
 refine kS rfl rfl (anq _ _ _ _ _ _) ?_;obtain⟨ls,L,k0,k1,k2,s⟩:=vZ G d p;have d0:=L.ld k0 (i:=0) (v:=I d.aS) rfl;have d1:=L.ld k0 (i:=1) (v:=I d.aj) rfl;have dA:=L.lda k0 (i:=0) (n:=9) (ys:=d.av) rfl rfl (by decide);have pA:=L.lda k1 (i:=0) (n:=9) (ys:=p.av) rfl rfl (by decide);have hf:=λH=>UO H d p;have ez:bd 44 []=some (.agg zD9):=by simp only [xq_,XR,jC,eu]
 have hbK:(((H.new (.blk 0 44 d.av)).new (.blk 0 112 p.av)).new (.blk 0 44 zD9)).base<=b:=by rw [s.base];exact hb
 obtain⟨Kz,z1,z2,z3,z4⟩:=L.whole hbK k2 (n:=9) (vs:=zD9) rfl rfl (by decide) rfl;have zu:Good b Kz (upd g q (dH ca)):=by rw [fQ h];exact z3.out
 by_cases h1:d.aS≠2∨d.fits p=false
 ·have hm:dZ d bF ca p=(ca,.zero,false):=by simp only [dZ];rw [if_pos h1];rfl
  rw [hm];refine⟨Kz,?_,zu,s.trans z4⟩;by_cases hk:d.aS=2
  ·have hff:d.fits p=false:=h1.resolve_left (λh=>h hk);rw [hk] at d0;simp only [Nat.reduceLT,xq_,Bl,aG (bG d),aG (aV p),d0,dA,pA,hf,hff,zae,zal,ez,z1,z2,uP,mM]
  ·simp only [Nat.reduceLT,xq_,Bl,aG (bG d),aG (aV p),d0,hk,zal,ez,z1,z2,uP,mM]
 ·have hk:d.aS=2:=Classical.byContradiction λh=>h1 (.inl h);have hff:d.fits p=true:=by cases hx:d.fits p <;> simp_all
  rw [hk] at d0;have ef:=rH L.good (L.obj h) C.len C.dat d.aj;simp only [qh] at ef;have LE:=L.newL (ty:=166) (xs:=zE6) (r:=H.next+1+1+1) rfl (by rw [fB,fB,fB]);have sE:Step b H _:=s.trans (Step.new (.blk 0 166 zE6) L.good.1);obtain⟨KE,x1,x2,M,x4⟩:=LE.whole (by rw [sE.base];exact hb) (r:=H.next+1+1+1) (xs:=zE6) (by(repeat rw [aB (by omega)]);first|exact k0|exact k1|exact k2|rw [ak]) (n:=6) (vs:=((ca.find d.aj).getD .zero).av) rfl rfl (by decide) (lU _);have t1:=sE.trans x4;have d3:=M.ld (r:=H.next) (xs:=d.av) (i:=3) (v:=I d.step) (by(repeat rw [aB (by omega)]);first|exact k0|exact k1|exact k2|rw [ak]) rfl;have hbE:KE.base<=b:=by rw [t1.base];exact hb
  have e5:=M.ld (r:=H.next+1+1+1) (i:=5) (v:=dat ((ca.find d.aj).getD .zero).data) (by(repeat rw [aB (by omega)]);first|exact k0|exact k1|exact k2|rw [ak]) rfl;have hown:((ca.find d.aj).getD .zero).data.length<1000000000:=by
   cases hx:ca.find d.aj with
   |none=>exact(by decide:([]:List Int).length<1000000000)
   |some own=>exact C.dat own (zba hx)
  have e2:=λH=>kD H p.data hp;by_cases s1:d.step=1
  ·rw [s1] at d3;have p6:=M.ld (r:=H.next+1) (xs:=p.av) (i:=6) (v:=I p.aW) (by(repeat rw [aB (by omega)]);first|exact k0|exact k1|exact k2|rw [ak]) rfl;have p5:=M.ld (r:=H.next+1) (xs:=p.av) (i:=5) (v:=I p.ptr) (by(repeat rw [aB (by omega)]);first|exact k0|exact k1|exact k2|rw [ak]) rfl;have p8:=M.ld (r:=H.next+1) (xs:=p.av) (i:=8) (v:=dat p.data) (by(repeat rw [aB (by omega)]);first|exact k0|exact k1|exact k2|rw [ak]) rfl;obtain⟨K2,u2,M2,w2⟩:=M.st hbE (r:=H.next) (xs:=d.av) (by(repeat rw [aB (by omega)]);first|exact k0|exact k1|exact k2|rw [ak]) (i:=4) (v:=I p.aW) (by simp [bJ.av]) dP;have t2:=t1.trans w2;obtain⟨K3,u3,M3,w3⟩:=M2.st (by rw [t2.base];exact hb) (r:=H.next) ak (i:=5) (v:=I p.ptr) (by simp [bJ.av]) dP;have t3:=t2.trans w3;obtain⟨K4,u4,M4,w4⟩:=M3.st (by rw [t3.base];exact hb) (r:=H.next) ak (i:=8) (v:=I p.ptr) (by simp [bJ.av]) dP;have t4:=t3.trans w4;obtain⟨K5,u5,M5,w5⟩:=M4.st (by rw [t4.base];exact hb) (r:=H.next) ak (i:=6) (v:=dat p.data) (by simp [bJ.av]) tJ;have t5:=t4.trans w5;have c1:∀{β:Type} (k:Option β),ck (bT (.ref (H.next+1) 0 5)) KE K2 k=k:=λk=>wL (pY u2 (by omega));have c2:∀{β:Type} (k:Option β),ck (bT (.ref (H.next+1) 0 5)) K2 K3 k=k:=λk=>wL (pY u3 (by omega));cases hx:ca.find d.aj with
   |none=>
    have hm:dZ d bF ca p=((dG { d with aW:=p.aW,head:=p.ptr,told:=p.ptr,data:=p.data,next:=p.ptr } bF ca).1,(dG { d with aW:=p.aW,head:=p.ptr,told:=p.ptr,data:=p.data,next:=p.ptr } bF ca).2,true):=by
     simp only [dZ,hx];rw [if_neg h1,if_pos s1]
    rw [hm];rw [hx] at ef x1;simp only [zaK] at ef;have n5:=M5.ld (r:=H.next) ak (i:=5) (v:=I p.ptr) rfl;obtain⟨K6,u6,M6,w6⟩:=M5.st (by rw [t5.base];exact hb) (r:=H.next) ak (i:=7) (v:=I p.ptr) (by simp [bJ.av]) dP;have t6:=t5.trans w6;obtain⟨K7,K8,v1,v2,v3,v4,v5,v6⟩:=BO M6 (by rw [t6.base];exact hb) h C { d with aW:=p.aW,head:=p.ptr,told:=p.ptr,data:=p.data,next:=p.ptr } bF hp (r:=H.next) (r':=H.next+1+1) (by rw [ak];rfl) (by(repeat rw [aB (by omega)]);first|exact k0|exact k1|exact k2|rw [ak]);refine⟨K8,?_,v5,t6.trans v6⟩;simp only [Nat.reduceLT,Int.reduceEq,xq_,Bl,aG (bG d),aG (aV p),d0,dA,pA,hf,hff,zae,d1,ef,x1,d3,p6,p5,p8,e2,u2,u3,u4,u5,c1,c2,Fv,n5,u6,v1,v2,v3,v4,uP]
   |some own=>
    have hm:dZ d bF ca p=((dG { d with aW:=p.aW,head:=p.ptr,told:=p.ptr,data:=own.data,next:=p.ptr } bF ca).1,(dG { d with aW:=p.aW,head:=p.ptr,told:=p.ptr,data:=own.data,next:=p.ptr } bF ca).2,true):=by
     simp only [dZ,hx];rw [if_neg h1,if_pos s1]
    rw [hm];rw [hx] at ef x1 e5;simp only [zaL,zaw] at ef x1 e5;have e5':=M5.ld (r:=H.next+1+1+1) (i:=5) (v:=dat ((ca.find d.aj).getD .zero).data) (by(repeat rw [aB (by omega)]);first|exact k0|exact k1|exact k2|rw [ak]) rfl;rw [hx] at e5';simp only [zaw] at e5';obtain⟨K5',u5',M5',w5'⟩:=M5.st (by rw [t5.base];exact hb) (r:=H.next) ak (i:=6) (v:=dat own.data) (by simp [bJ.av]) tJ;have t5':=t5.trans w5';have n5:=M5'.ld (r:=H.next) ak (i:=5) (v:=I p.ptr) rfl;obtain⟨K6,u6,M6,w6⟩:=M5'.st (by rw [t5'.base];exact hb) (r:=H.next) ak (i:=7) (v:=I p.ptr) (by simp [bJ.av]) dP;have t6:=t5'.trans w6;obtain⟨K7,K8,v1,v2,v3,v4,v5,v6⟩:=BO M6 (by rw [t6.base];exact hb) h C { d with aW:=p.aW,head:=p.ptr,told:=p.ptr,data:=own.data,next:=p.ptr } bF (C.dat own (zba hx)) (r:=H.next) (r':=H.next+1+1) (by rw [ak];rfl) (by(repeat rw [aB (by omega)]);first|exact k0|exact k1|exact k2|rw [ak]);refine⟨K8,?_,v5,t6.trans v6⟩;simp only [Nat.reduceLT,Int.reduceEq,xq_,Bl,aG (bG d),aG (aV p),d0,dA,pA,hf,hff,zae,d1,ef,x1,d3,p6,p5,p8,e2,u2,u3,u4,u5,c1,c2,e5',u5',Fv,n5,u6,v1,v2,v3,v4,uP]
  ·by_cases s3:d.step=3
   ·rw [s3] at d3;cases hx:ca.find d.aj with
    |none=>
     have hm:dZ d bF ca p=((dG { d with data:=p.data,next:=p.ptr } bF ca).1,(dG { d with data:=p.data,next:=p.ptr } bF ca).2,true):=by
      simp only [dZ,hx];rw [if_neg h1,if_neg s1,if_pos s3]
     rw [hm];rw [hx] at ef x1;simp only [zaK] at ef;have p8:=M.ld (r:=H.next+1) (xs:=p.av) (i:=8) (v:=dat p.data) (by(repeat rw [aB (by omega)]);first|exact k0|exact k1|exact k2|rw [ak]) rfl;obtain⟨K5,u5,M5,w5⟩:=M.st hbE (r:=H.next) (xs:=d.av) (by(repeat rw [aB (by omega)]);first|exact k0|exact k1|exact k2|rw [ak]) (i:=6) (v:=dat p.data) (by simp [bJ.av]) tJ;have t5:=t1.trans w5;have p5:=M5.ld (r:=H.next+1) (xs:=p.av) (i:=5) (v:=I p.ptr) (by(repeat rw [aB (by omega)]);first|exact k0|exact k1|exact k2|rw [ak]) rfl;obtain⟨K6,u6,M6,w6⟩:=M5.st (by rw [t5.base];exact hb) (r:=H.next) ak (i:=7) (v:=I p.ptr) (by simp [bJ.av]) dP;have t6:=t5.trans w6;obtain⟨K7,K8,v1,v2,v3,v4,v5,v6⟩:=BO M6 (by rw [t6.base];exact hb) h C { d with data:=p.data,next:=p.ptr } bF hp (r:=H.next) (r':=H.next+1+1) (by rw [ak];rfl) (by(repeat rw [aB (by omega)]);first|exact k0|exact k1|exact k2|rw [ak]);refine⟨K8,?_,v5,t6.trans v6⟩;simp only [Nat.reduceLT,Int.reduceEq,xq_,Bl,aG (bG d),aG (aV p),d0,dA,pA,hf,hff,zae,zal,d1,ef,x1,d3,p5,p8,e2,u5,Fz,u6,v1,v2,v3,v4,uP]
    |some own=>
     have hm:dZ d bF ca p=((dG { d with data:=d.data,next:=p.ptr } bF ca).1,(dG { d with data:=d.data,next:=p.ptr } bF ca).2,true):=by
      simp only [dZ,hx];rw [if_neg h1,if_neg s1,if_pos s3]
     rw [hm];rw [hx] at ef x1;simp only [zaL,zaw] at ef x1;have p5:=M.ld (r:=H.next+1) (xs:=p.av) (i:=5) (v:=I p.ptr) (by(repeat rw [aB (by omega)]);first|exact k0|exact k1|exact k2|rw [ak]) rfl;obtain⟨K6,u6,M6,w6⟩:=M.st hbE (r:=H.next) (xs:=d.av) (by(repeat rw [aB (by omega)]);first|exact k0|exact k1|exact k2|rw [ak]) (i:=7) (v:=I p.ptr) (by simp [bJ.av]) dP;have t6:=t1.trans w6;obtain⟨K7,K8,v1,v2,v3,v4,v5,v6⟩:=BO M6 (by rw [t6.base];exact hb) h C { d with data:=d.data,next:=p.ptr } bF hd (r:=H.next) (r':=H.next+1+1) (by rw [ak];rfl) (by(repeat rw [aB (by omega)]);first|exact k0|exact k1|exact k2|rw [ak]);refine⟨K8,?_,v5,t6.trans v6⟩;simp only [Nat.reduceLT,Int.reduceEq,xq_,Bl,aG (bG d),aG (aV p),d0,dA,pA,hf,hff,zae,d1,ef,x1,d3,p5,Fz,u6,v1,v2,v3,v4,uP]
   ·by_cases s6:d.step=6
    ·have hm:dZ d bF ca p=(ca,{ d with step:=0 },true):=by simp only [dZ];rw [if_neg h1,if_neg s1,if_neg s3,if_pos s6]
     rw [hm];obtain⟨K1,a1,M1,a3⟩:=M.st hbE (r:=H.next) (xs:=d.av) (by(repeat rw [aB (by omega)]);first|exact k0|exact k1|exact k2|rw [ak]) (i:=3) (v:=I 0) (by simp [bJ.av]) dP;have dB:=M1.lda ak (i:=0) (n:=9) (ys:=({ d with step:=0 }:bJ).av) rfl rfl (by decide);obtain⟨K2,u1,u2,u3,u4⟩:=M1.whole (by rw [a3.base];exact hbE) (r:=H.next+1+1) (xs:=zD9) (by(repeat rw [aB (by omega)]);first|exact k0|exact k1|exact k2|rw [ak]) (n:=9) (vs:=({ d with step:=0 }:bJ).av) rfl rfl (by decide) (bG _);refine⟨K2,?_,by rw [fQ h];exact u3.out,(t1.trans a3).trans u4⟩;rw [s6] at d3;simp only [Nat.reduceLT,Int.reduceEq,xq_,Bl,aG (bG d),aG (aV p),d0,dA,pA,hf,hff,zae,d1,ef,x1,d3,a1,dB,u1,u2,uP]
    ·have hm:dZ d bF ca p=(ca,.zero,false):=by simp only [dZ];rw [if_neg h1,if_neg s1,if_neg s3,if_neg s6];rfl
     rw [hm];obtain⟨K2,u1,u2,u3,u4⟩:=M.whole hbE (r:=H.next+1+1) (xs:=zD9) (by(repeat rw [aB (by omega)]);first|exact k0|exact k1|exact k2|rw [ak]) (n:=9) (vs:=zD9) rfl rfl (by decide) rfl;refine⟨K2,?_,by rw [fQ h];exact u3.out,t1.trans u4⟩;simp only [Nat.reduceLT,xq_,Bl,aG (bG d),aG (aV p),d0,dA,pA,hf,hff,zae,d1,ef,x1,d3,s1,s3,s6,ez,u1,u2,uP,mM]
end
section
variable {b:Nat}{H:ah}{g:bD}{q:Nat}{ca:Cache}
def Loc.ext {K K':ah}{ls:Lcl}(L:Loc b K g ls)(M:Made K K' qC):Loc b K' g ls:=⟨L.good.ext M.next M.same,L.free⟩
def apm(G:Good b H g)(hb:H.base<=b)(h:g q=some (dH ca))(C:COk ca)(d:bJ)(head:Int):
  ∃H',cl 160 [.agg d.av,.ref q 0 0,I head] H=some (.agg (gX d ca head).2.1.av,H')/\Good b H' (upd g q (dH (gX d ca head).1))/\Step b H H':=by
 refine kS rfl rfl (aoh _ _ _ _ _) ?_;have L1:=(Loc.of G).newL (ty:=44) (xs:=d.av) (r:=H.next) (bG d) rfl;have L2:=L1.newL (ty:=44) (xs:=zD9) (r:=H.next+1) rfl (by rw [fB]);have s2:Step b H _:=(Step.new (.blk 0 44 d.av) G.1).trans (Step.new (.blk 0 44 zD9) L1.good.1);have d1:=L2.ld (r:=H.next) (i:=1) (v:=I d.aj) (by(repeat rw [aB (by omega)]);rw [ak]) rfl;obtain⟨K1,a1,a2,a3⟩:=I9 L2.good (by rw [s2.base];exact hb) (L2.obj h) C.len C.dat d.aj;have M1:=L2.call h a2;have t1:=s2.trans a3;obtain⟨K2,u2,M2,w2⟩:=M1.st (by rw [t1.base];exact hb) (r:=H.next) (xs:=d.av) (by(repeat rw [aB (by omega)]);rw [ak]) (i:=3) (v:=I 6) (by simp [bJ.av]) dP;have t2:=t1.trans w2;obtain⟨K3,u3,M3,w3⟩:=M2.st (by rw [t2.base];exact hb) (r:=H.next) ak (i:=4) (v:=I 1) (by simp [bJ.av]) dP;have t3:=t2.trans w3;obtain⟨K4,u4,M4,w4⟩:=M3.st (by rw [t3.base];exact hb) (r:=H.next) ak (i:=5) (v:=I head) (by simp [bJ.av]) dP;have t4:=t3.trans w4;obtain⟨K5,u5,M5,w5⟩:=M4.st (by rw [t4.base];exact hb) (r:=H.next) ak (i:=6) (v:=zN) (by simp [bJ.av]) qw;have t5:=t4.trans w5;have f1:=M5.lda (r:=H.next) ak (i:=0) (n:=9) (ys:=(gX d ca head).2.1.av) (by simp only [gX,bJ.av,EC];rfl) rfl (by decide);obtain⟨K7,u7,v7,M7,w7⟩:=M5.whole (by rw [t5.base];exact hb) (r:=H.next+1) (xs:=zD9) (by(repeat rw [aB (by omega)]);rw [ak]) (n:=9) (vs:=(gX d ca head).2.1.av) rfl rfl (by decide) (bG _);refine⟨K7,?_,M7.out,t5.trans w7⟩;simp only [Nat.reduceLT,xq_,ahr,aG (bG d),d1,a1,u2,u3,u4,u5,f1,u7,v7]
abbrev lnk(f bk:Int):List AV:=[I f,I bk]
def acr(H:ah)(f b:Int):∃H',cl 183 [.agg (lnk f b)] H=some (B (decide (b=-1)),H')/\(H.base<=H.next->Made H H' qC):=by
 refine⟨H.new (.blk 0 164 (lnk f b)),bC rfl rfl (aoB _ _ _ ?_),λhb=>(Made.refl hb).new _⟩;simp only [Nat.reduceLT,Int.reduceNeg,xq_,hq_,ahF,aG]
def ajZ(H:ah)(f b:Int):∃H',cl 192 [.agg (lnk f b)] H=some (B (decide (f=-1)),H')/\(H.base<=H.next->Made H H' qC):=by
 refine⟨H.new (.blk 0 164 (lnk f b)),bC rfl rfl (aoI _ _ _ ?_),λhb=>(Made.refl hb).new _⟩;simp only [Nat.reduceLT,Int.reduceNeg,xq_,hq_,ahH,aG]
def aj0(H:ah)(hb0:H.base<=H.next)(f bk:Int):∃H',cl 182 [.agg (lnk f bk)] H=some (B (decide (bk=-1/\f=-1)),H')/\Made H H' qC:=by
 let H1:=H.new (.blk 0 164 (lnk f bk));have g1:H1.get H.next=.blk 0 164 (lnk f bk):=aZ rfl
 have l1:lda 2 (.ref H.next 0 0) H1=some (.agg (lnk f bk),H1):=(iK (off:=0) (n:=2) g1 (zac 2)).trans rfl;obtain⟨H2,e1,M1⟩:=acr H1 f bk;by_cases h:bk=-1
 ·have hd:decide (bk=-1)=true:=decide_eq_true h;rw [hd] at e1;have hb:H1.base<=H1.next:=by simp only [H1,jD,fB];omega
  have M:=M1 hb;have l2:lda 2 (.ref H.next 0 0) H2=some (.agg (lnk f bk),H2):=(iK (g:=0) (ty:=164) (off:=0) (n:=2) (xs:=lnk f bk) (by rw [M.same _ (by simp only [H1,fB];omega)];exact g1) (zac 2)).trans rfl;obtain⟨H3,e2,M2⟩:=ajZ H2 f bk;have M3:=M2 (by rw [M.base];exact zax hb M.next);have M4:Made H1 H3 qC:=⟨zax M.next M3.next,M3.base.trans M.base,λr hr=>by rw [M3.same r (zaz hr M.next),M.same r hr],Good.empty' (zax M.next M3.next)⟩
  refine⟨H3,bC rfl rfl (ahE _ _ _ ?_),M4.zh⟩;simp only [H1] at l1 e1;have hda:decide (bk=-1/\f=-1)=decide (f=-1):=by simp [h]
  rw [hda];simp only [Nat.reduceLT,Int.reduceNeg,xq_,abe,aG (show(lnk f bk).all AV.aP=true from rfl),l1,e1,l2,e2]
 ·have hd:decide (bk=-1)=false:=decide_eq_false h;rw [hd] at e1;have hda:decide (bk=-1/\f=-1)=false:=by simp [h]
  refine⟨H2,bC rfl rfl (ahE _ _ _ ?_),(M1 (by simp only [H1,jD,fB];omega)).zh⟩;simp only [H1] at l1 e1;rw [hda];simp only [Nat.reduceLT,xq_,abe,aG (show(lnk f bk).all AV.aP=true from rfl),l1,e1]
end
section
variable {b:Nat}{H:ah}{g:bD}{q:Nat}{ca:Cache}
def lW(d:bJ)(c:Cache)(p:Pkt):Cache × bJ:=
 let d:bJ:={ d with aW:=p.aW,head:=p.ptr,told:=p.ptr,data:=[],step:=6 }
 match c.find d.aj with
 |none=>(c,d)
 |some e=>
  if e.back=-1/\e.fwd=-1 then(c.drop d.aj,{ d with aW:=0,head:=-1,data:=if e.dn then e.data else [] })
  else if e.back=-1 then(c,{ d with head:=-1,next:=e.fwd,step:=5 })
  else(c,{ d with head:=e.back,next:=e.fwd,step:=4 })
def Yw(G:Good b H g)(hb:H.base<=b)(h:g q=some (dH ca))(C:COk ca)(d:bJ)(p:Pkt):
  ∃H',cl 159 [.agg d.av,.ref q 0 0,.agg p.av] H=some (.agg (lW d ca p).2.av,H')/\Good b H' (upd g q (dH (lW d ca p).1))/\Step b H H':=by
 refine kS rfl rfl (aog _ _ _ _ _) ?_;obtain⟨ls,L,k0,k1,k2,s⟩:=vZ G d p;have hbK:(((H.new (.blk 0 44 d.av)).new (.blk 0 112 p.av)).new (.blk 0 44 zD9)).base<=b:=by rw [s.base];exact hb
 have p6:=L.ld k1 (i:=6) (v:=I p.aW) rfl;have p5:=L.ld k1 (i:=5) (v:=I p.ptr) rfl;obtain⟨K2,u2,M2,w2⟩:=L.st hbK (r:=H.next) k0 (i:=4) (v:=I p.aW) (by simp [bJ.av]) dP;have t2:=s.trans w2;obtain⟨K3,u3,M3,w3⟩:=M2.st (by rw [t2.base];exact hb) (r:=H.next) ak (i:=5) (v:=I p.ptr) (by simp [bJ.av]) dP;have t3:=t2.trans w3;obtain⟨K4,u4,M4,w4⟩:=M3.st (by rw [t3.base];exact hb) (r:=H.next) ak (i:=8) (v:=I p.ptr) (by simp [bJ.av]) dP;have t4:=t3.trans w4;obtain⟨K5,u5,M5,w5⟩:=M4.st (by rw [t4.base];exact hb) (r:=H.next) ak (i:=6) (v:=zN) (by simp [bJ.av]) qw;have t5:=t4.trans w5;have c1:∀{β:Type} (k:Option β),ck (bT (.ref (H.next+1) 0 5)) (((H.new (.blk 0 44 d.av)).new (.blk 0 112 p.av)).new (.blk 0 44 zD9)) K2 k=k:=λk=>wL (pY u2 (by omega));have c2:∀{β:Type} (k:Option β),ck (bT (.ref (H.next+1) 0 5)) K2 K3 k=k:=λk=>wL (pY u3 (by omega));obtain⟨K6,u6,M6,w6⟩:=M5.st (by rw [t5.base];exact hb) (r:=H.next) ak (i:=3) (v:=I 6) (by simp [bJ.av]) dP;have t6:=t5.trans w6;let d2:bJ:={ d with aW:=p.aW,head:=p.ptr,told:=p.ptr,data:=[],step:=6 }
 have e2:(((((d.av.set 4 (I p.aW)).set 5 (I p.ptr)).set 8 (I p.ptr)).set 6 zN).set 3 (I 6))=d2.av:=by simp only [d2,bJ.av,EC];rfl
 rw [e2] at M6;have k0':∀(l:Lcl) (x:List AV),iR l H.next x H.next=some x:=λ_ _=>ak
 have d1:=M6.ld (r:=H.next) ak (i:=1) (v:=I d.aj) rfl;have ef:=rH M6.good (M6.obj h) C.len C.dat d.aj;simp only [qh] at ef;have LE:=M6.newL (ty:=166) (xs:=zE6) (r:=K6.next) rfl rfl;have z2:iR (iR (iR (iR (iR ls H.next (d.av.set 4 (I p.aW))) H.next ((d.av.set 4 (I p.aW)).set 5 (I p.ptr))) H.next (((d.av.set 4 (I p.aW)).set 5 (I p.ptr)).set 8 (I p.ptr))) H.next ((((d.av.set 4 (I p.aW)).set 5 (I p.ptr)).set 8 (I p.ptr)).set 6 zN)) H.next d2.av (H.next+1+1)=some zD9:=by
  rw [aB (by omega),aB (by omega),aB (by omega),aB (by omega),aB (by omega)];exact k2
 have n6:H.next+1+1<K6.next:=M6.good.lt (qK (g:=g) z2)
 obtain⟨KE,x1,x2,ME,x4⟩:=LE.whole (by rw [jD,t6.base];exact hb) (r:=K6.next) ak (n:=6) (vs:=((ca.find d.aj).getD .zero).av) rfl rfl (by decide) (lU _);have tE:=(t6.trans (Step.new (.blk 0 166 zE6) M6.good.1)).trans x4;have hbE:KE.base<=b:=by rw [tE.base];exact hb
 generalize hls:iR (iR (iR (iR (iR (iR (iR ls H.next (d.av.set 4 (I p.aW))) H.next ((d.av.set 4 (I p.aW)).set 5 (I p.ptr))) H.next (((d.av.set 4 (I p.aW)).set 5 (I p.ptr)).set 8 (I p.ptr))) H.next ((((d.av.set 4 (I p.aW)).set 5 (I p.ptr)).set 8 (I p.ptr)).set 6 zN)) H.next d2.av) K6.next zE6) K6.next ((ca.find d.aj).getD .zero).av=lz at ME
 have y0:lz H.next=some d2.av:=by rw [<-hls,aB (by omega),aB (by omega),ak]
 have y2:lz (H.next+1+1)=some zD9:=by rw [<-hls,aB (by omega),aB (by omega)];exact z2
 have y3:lz K6.next=some ((ca.find d.aj).getD .zero).av:=by rw [<-hls,ak]
 have fin:∀{Kx:ah} {lx:Lcl} {gx:bD} (dx:bJ),Loc b Kx gx lx->Kx.base<=b->lx H.next=some dx.av->lx (H.next+1+1)=some zD9->∃H',lda 9 (.ref H.next 0 0) Kx=some (.agg dx.av,Kx)/\st 9 (.ref (H.next+1+1) 0 0) (.agg dx.av) Kx=some (bg,H')/\lda 9 (.ref (H.next+1+1) 0 0) H'=some (.agg dx.av,H')/\Good b H' gx/\Step b Kx H':=λdx Lx hbx q0 q2=>by
  obtain⟨K',v1,v2,v3,v4⟩:=Lx.whole hbx q2 (n:=9) (vs:=dx.av) rfl rfl (by decide) (bG _);exact⟨K',Lx.lda q0 (i:=0) (n:=9) (ys:=dx.av) rfl rfl (by decide),v1,v2,v3.out,v4⟩
 cases hfd:ca.find d.aj with
 |none=>
  have hm:lW d ca p=(ca,d2):=by simp only [lW,hfd,d2]
  rw [hm];rw [hfd] at ef x1;simp only [zaK] at ef;obtain⟨H',f1,f2,f3,f4,f5⟩:=fin d2 ME hbE y0 y2;refine⟨H',?_,by rw [fQ h];exact f4,tE.trans f5⟩;simp only [Nat.reduceLT,Int.reduceNeg,xq_,KZ,aG (bG d),aG (aV p),p6,p5,u2,u3,u4,u5,c1,c2,u6,d1,ef,x1,zal,f1,f2,f3]
 |some e=>
  rw [hfd] at ef x1 y3;simp only [zaL,zaw] at ef x1 y3;have l2:=ME.lda y3 (i:=0) (n:=2) (ys:=lnk e.fwd e.back) rfl rfl (by decide);obtain⟨KO,o1,o2⟩:=aj0 KE (zax hbE ME.good.1) e.fwd e.back;have MO:=ME.ext o2;have hbO:KO.base<=b:=by rw [o2.base];exact hbE
  have tO:Step b H KO:=tE.trans ⟨o2.base,o2.next,λr hr=>o2.same r (zaz hr ME.good.1)⟩;by_cases h1:e.back=-1/\e.fwd=-1
  ·have dl:=MO.ld y0 (i:=1) (v:=I d.aj) rfl;obtain⟨K7,a1,a2,a3⟩:=I9 MO.good hbO (MO.obj h) C.len C.dat d.aj;have M7:=MO.call h a2;have t7:=tO.trans a3;obtain⟨K8,u8,M8,w8⟩:=M7.st (by rw [t7.base];exact hb) y0 (i:=4) (v:=I 0) (by simp [bJ.av]) dP;have t8:=t7.trans w8;obtain⟨K9,u9,M9,w9⟩:=M8.st (by rw [t8.base];exact hb) (r:=H.next) ak (i:=5) (v:=I (-1)) (by simp [bJ.av]) dP;have t9:=t8.trans w9;have y3':iR (iR lz H.next (d2.av.set 4 (I 0))) H.next ((d2.av.set 4 (I 0)).set 5 (I (-1))) K6.next=some e.av:=by rw [aB (by omega),aB (by omega)];exact y3
   have y2':iR (iR lz H.next (d2.av.set 4 (I 0))) H.next ((d2.av.set 4 (I 0)).set 5 (I (-1))) (H.next+1+1)=some zD9:=by rw [aB (by omega),aB (by omega)];exact y2
   have ed:=M9.ld y3' (i:=4) (v:=B e.dn) rfl;rw [decide_eq_true h1] at o1;cases hdy:e.dn with
   |false=>
    have hm:lW d ca p=(ca.drop d.aj,{ d2 with aW:=0,head:=-1,data:=[] }):=by
     simp only [lW,hfd,d2];rw [if_pos h1,hdy];rfl
    rw [hm];rw [hdy] at ed;obtain⟨H',f1,f2,f3,f4,f5⟩:=fin { d2 with aW:=0,head:=-1,data:=[] } M9 (by rw [t9.base];exact hb) (by rw [ak];rfl) y2';refine⟨H',?_,f4,t9.trans f5⟩;simp only [Nat.reduceLT,Int.reduceNeg,xq_,KZ,sQ,aG (bG d),aG (aV p),p6,p5,u2,u3,u4,u5,c1,c2,u6,d1,ef,x1,zae,l2,o1,dl,a1,u8,u9,ed,f1,f2,f3]
   |true=>
    have hm:lW d ca p=(ca.drop d.aj,{ d2 with aW:=0,head:=-1,data:=e.data }):=by
     simp only [lW,hfd,d2];rw [if_pos h1,hdy];rfl
    rw [hm];rw [hdy] at ed;have ex:=M9.ld y3' (i:=5) (v:=dat e.data) rfl;obtain⟨K10,u10,M10,w10⟩:=M9.st (by rw [t9.base];exact hb) (r:=H.next) ak (i:=6) (v:=dat e.data) (by simp [bJ.av]) tJ;have t10:=t9.trans w10;obtain⟨H',f1,f2,f3,f4,f5⟩:=fin { d2 with aW:=0,head:=-1,data:=e.data } M10 (by rw [t10.base];exact hb) (by rw [ak];rfl) (by rw [aB (by omega)];exact y2');refine⟨H',?_,f4,t10.trans f5⟩;simp only [Nat.reduceLT,Int.reduceNeg,xq_,KZ,sQ,aG (bG d),aG (aV p),p6,p5,u2,u3,u4,u5,c1,c2,u6,d1,ef,x1,zae,l2,o1,dl,a1,u8,u9,ed,ex,u10,f1,f2,f3]
  ·have l2':=MO.lda y3 (i:=0) (n:=2) (ys:=lnk e.fwd e.back) rfl rfl (by decide);obtain⟨KH,q1,q2'⟩:=acr KO e.fwd e.back;have q2:=q2' (zax hbO MO.good.1);have MH:=MO.ext q2;have hbH:KH.base<=b:=by rw [q2.base];exact hbO
   have tH:Step b H KH:=tO.trans ⟨q2.base,q2.next,λr hr=>q2.same r (zaz hr MO.good.1)⟩;rw [decide_eq_false h1] at o1;have g0:=MH.ld y3 (i:=0) (v:=I e.fwd) rfl;have g1:=MH.ld y3 (i:=1) (v:=I e.back) rfl;by_cases h2:e.back=-1
   ·have hm:lW d ca p=(ca,{ d2 with head:=-1,next:=e.fwd,step:=5 }):=by
     simp only [lW,hfd,d2];rw [if_neg h1,if_pos h2]
    rw [hm];rw [decide_eq_true h2] at q1;obtain⟨K8,u8,M8,w8⟩:=MH.st hbH y0 (i:=5) (v:=I (-1)) (by simp [bJ.av]) dP;have t8:=tH.trans w8;obtain⟨K9,u9,M9,w9⟩:=M8.st (by rw [t8.base];exact hb) (r:=H.next) ak (i:=7) (v:=I e.fwd) (by simp [bJ.av]) dP;have t9:=t8.trans w9;obtain⟨K10,u10,M10,w10⟩:=M9.st (by rw [t9.base];exact hb) (r:=H.next) ak (i:=3) (v:=I 5) (by simp [bJ.av]) dP;have t10:=t9.trans w10;have c3:∀{β:Type} (k:Option β),ck (bT (.ref K6.next 0 0)) KH K8 k=k:=λk=>wL (pY u8 (by omega));obtain⟨H',f1,f2,f3,f4,f5⟩:=fin { d2 with head:=-1,next:=e.fwd,step:=5 } M10 (by rw [t10.base];exact hb) (by rw [ak];rfl) (by rw [aB (by omega),aB (by omega),aB (by omega)];exact y2);refine⟨H',?_,by rw [fQ h];exact f4,t10.trans f5⟩;simp only [Nat.reduceLT,Int.reduceNeg,xq_,KZ,sQ,aG (bG d),aG (aV p),p6,p5,u2,u3,u4,u5,c1,c2,u6,d1,ef,x1,zae,l2,o1,l2',q1,g0,u8,u9,u10,c3,f1,f2,f3]
   ·have hm:lW d ca p=(ca,{ d2 with head:=e.back,next:=e.fwd,step:=4 }):=by
     simp only [lW,hfd,d2];rw [if_neg h1,if_neg h2]
    rw [hm];rw [decide_eq_false h2] at q1;obtain⟨K8,u8,M8,w8⟩:=MH.st hbH y0 (i:=5) (v:=I e.back) (by simp [bJ.av]) dP;have t8:=tH.trans w8;obtain⟨K9,u9,M9,w9⟩:=M8.st (by rw [t8.base];exact hb) (r:=H.next) ak (i:=7) (v:=I e.fwd) (by simp [bJ.av]) dP;have t9:=t8.trans w9;obtain⟨K10,u10,M10,w10⟩:=M9.st (by rw [t9.base];exact hb) (r:=H.next) ak (i:=3) (v:=I 4) (by simp [bJ.av]) dP;have t10:=t9.trans w10;have c3:∀{β:Type} (k:Option β),ck (bT (.ref K6.next 0 0)) KH K8 k=k:=λk=>wL (pY u8 (by omega));obtain⟨H',f1,f2,f3,f4,f5⟩:=fin { d2 with head:=e.back,next:=e.fwd,step:=4 } M10 (by rw [t10.base];exact hb) (by rw [ak];rfl) (by rw [aB (by omega),aB (by omega),aB (by omega)];exact y2);refine⟨H',?_,by rw [fQ h];exact f4,t10.trans f5⟩;simp only [Nat.reduceLT,Int.reduceNeg,xq_,KZ,sQ,aG (bG d),aG (aV p),p6,p5,u2,u3,u4,u5,c1,c2,u6,d1,ef,x1,zae,l2,o1,l2',q1,g0,g1,u8,u9,u10,c3,f1,f2,f3]
end
section
variable {b:Nat}{H:ah}{g:bD}{q:Nat}{ca:Cache}
def aj1(G:Good b H g)(hb:H.base<=b)(h:g q=some (dH ca))(C:COk ca)(d:bJ)(p:Pkt)(nd:Int):
  ∃H',cl 116 [.agg d.av,I nd,.ref q 0 0,.agg p.av] H=some (uP (eG d ca p),H')/\Good b H' (upd g q (dH (eG d ca p).1))/\Step b H H':=by
 refine kS rfl rfl (anr _ _ _ _ _ _) ?_;obtain⟨ls,L,k0,k1,k2,s⟩:=vZ G d p;have d0:=L.ld k0 (i:=0) (v:=I d.aS) rfl;have d3:=L.ld k0 (i:=3) (v:=I d.step) rfl;have dA:=L.lda k0 (i:=0) (n:=9) (ys:=d.av) rfl rfl (by decide);have pA:=L.lda k1 (i:=0) (n:=9) (ys:=p.av) rfl rfl (by decide);have hf:=λH=>UO H d p;have ez:bd 44 []=some (.agg zD9):=by simp only [xq_,XR,jC,eu]
 have hbK:(((H.new (.blk 0 44 d.av)).new (.blk 0 112 p.av)).new (.blk 0 44 zD9)).base<=b:=by rw [s.base];exact hb
 obtain⟨Kz,z1,z2,z3,z4⟩:=L.whole hbK k2 (n:=9) (vs:=zD9) rfl rfl (by decide) rfl;have zu:Good b Kz (upd g q (dH ca)):=by rw [fQ h];exact z3.out
 have outs:∀head,∃K1 K2,cl 160 [.agg d.av,.ref q 0 0,I head] (((H.new (.blk 0 44 d.av)).new (.blk 0 112 p.av)).new (.blk 0 44 zD9))=some (.agg (gX d ca head).2.1.av,K1)/\
   st 9 (.ref (H.next+1+1) 0 0) (.agg (gX d ca head).2.1.av) K1=some (bg,K2)/\lda 9 (.ref (H.next+1+1) 0 0) K2=some (.agg (gX d ca head).2.1.av,K2)/\Good b K2 (upd g q (dH (gX d ca head).1))/\Step b H K2:=λhead=>by
  obtain⟨K1,a1,a2,a3⟩:=apm L.good hbK (L.obj h) C d head;have M:=L.call h a2;obtain⟨K2,u1,u2,u3,u4⟩:=M.whole (by rw [a3.base];exact hbK) k2 (n:=9) (vs:=(gX d ca head).2.1.av) rfl rfl (by decide) (bG _);exact⟨K1,K2,a1,u1,u2,u3.out,(s.trans a3).trans u4⟩
 have steps:∀k:Int,∃K1 K2,st 1 (.ref H.next 0 3) (I k) (((H.new (.blk 0 44 d.av)).new (.blk 0 112 p.av)).new (.blk 0 44 zD9))=some (bg,K1)/\lda 9 (.ref H.next 0 0) K1=some (.agg ({ d with step:=k }:bJ).av,K1)/\
   st 9 (.ref (H.next+1+1) 0 0) (.agg ({ d with step:=k }:bJ).av) K1=some (bg,K2)/\lda 9 (.ref (H.next+1+1) 0 0) K2=some (.agg ({ d with step:=k }:bJ).av,K2)/\Good b K2 (upd g q (dH ca))/\Step b H K2:=λk=>by
  obtain⟨K1,a1,M,a3⟩:=L.st hbK k0 (i:=3) (v:=I k) (by simp [bJ.av]) dP;have k2':iR ls H.next (d.av.set 3 (I k)) (H.next+1+1)=some zD9:=by rw [aB (by omega)];exact k2
  have dB:=M.lda ak (i:=0) (n:=9) (ys:=({ d with step:=k }:bJ).av) rfl rfl (by decide);obtain⟨K2,u1,u2,u3,u4⟩:=M.whole (by rw [a3.base];exact hbK) k2' (n:=9) (vs:=({ d with step:=k }:bJ).av) rfl rfl (by decide) (bG _);exact⟨K1,K2,a1,dB,u1,u2,by rw [fQ h];exact u3.out,(s.trans a3).trans u4⟩
 have d7:=L.ld k0 (i:=7) (v:=I d.next) rfl;have d5:=L.ld k0 (i:=5) (v:=I d.head) rfl;have d8:=L.ld k0 (i:=8) (v:=I d.told) rfl;by_cases h1:d.aS≠3∨d.fits p=false
 ·have hm:eG d ca p=(ca,.zero,false):=by simp only [eG];rw [if_pos h1];rfl
  rw [hm];refine⟨Kz,?_,zu,s.trans z4⟩;by_cases hk:d.aS=3
  ·have hff:d.fits p=false:=h1.resolve_left (λh=>h hk);rw [hk] at d0;simp only [Nat.reduceLT,Int.reduceNeg,xq_,y9,aG (bG d),aG (aV p),d0,dA,pA,hf,hff,zae,zal,ez,z1,z2,uP,mM]
  ·simp only [Nat.reduceLT,Int.reduceNeg,xq_,y9,aG (bG d),aG (aV p),d0,hk,zal,ez,z1,z2,uP,mM]
 ·have hk:d.aS=3:=Classical.byContradiction λh=>h1 (.inl h);have hff:d.fits p=true:=by cases hx:d.fits p <;> simp_all
  rw [hk] at d0;by_cases s1:d.step=1
  ·have hm:eG d ca p=((lW d ca p).1,(lW d ca p).2,true):=by
    simp only [eG,lW];rw [if_neg h1,if_pos s1];cases ca.find d.aj with
    |none=>rfl
    |some e=>
     simp only;split
     ·rfl
     ·split <;> rfl
   rw [hm];rw [s1] at d3;obtain⟨K1,a1,a2,a3⟩:=Yw L.good hbK (L.obj h) C d p;have M:=L.call h a2;obtain⟨K2,u1,u2,u3,u4⟩:=M.whole (by rw [a3.base];exact hbK) k2 (n:=9) (vs:=(lW d ca p).2.av) rfl rfl (by decide) (bG _);refine⟨K2,?_,u3.out,(s.trans a3).trans u4⟩;simp only [Nat.reduceLT,Int.reduceEq,Int.reduceNeg,xq_,y9,aG (bG d),aG (aV p),d0,dA,pA,hf,hff,zae,d3,a1,u1,u2,uP]
  ·by_cases s4:d.step=4
   ·rw [s4] at d3;by_cases hn:d.next=-1
    ·have hm:eG d ca p=gX d ca d.told:=by simp only [eG];rw [if_neg h1,if_neg s1,if_pos s4,if_pos hn]
     rw [hm];obtain⟨K1,K2,a1,u1,u2,u3,u4⟩:=outs d.told;refine⟨K2,?_,u3,u4⟩;have ht:(gX d ca d.told).2.2=true:=rfl;rw [hn] at d7;simp only [Nat.reduceLT,Int.reduceEq,Int.reduceNeg,xq_,y9,aG (bG d),aG (aV p),d0,dA,pA,hf,hff,zae,d3,d7,d8,a1,u1,u2,uP,ht]
    ·have hm:eG d ca p=(ca,{ d with step:=5 },true):=by simp only [eG];rw [if_neg h1,if_neg s1,if_pos s4,if_neg hn]
     rw [hm];obtain⟨K1,K2,a1,dB,u1,u2,u3,u4⟩:=steps 5;refine⟨K2,?_,u3,u4⟩;simp only [Nat.reduceLT,Int.reduceEq,Int.reduceNeg,xq_,y9,aG (bG d),aG (aV p),d0,dA,pA,hf,hff,zae,d3,d7,hn,a1,dB,u1,u2,uP]
   ·by_cases s5:d.step=5
    ·rw [s5] at d3;by_cases hn:d.head=-1
     ·have hm:eG d ca p=gX d ca d.next:=by simp only [eG];rw [if_neg h1,if_neg s1,if_neg s4,if_pos s5,if_pos hn]
      rw [hm];obtain⟨K1,K2,a1,u1,u2,u3,u4⟩:=outs d.next
      refine⟨K2,?_,u3,u4⟩;have ht:(gX d ca d.next).2.2=true:=rfl;rw [hn] at d5;simp only [Nat.reduceLT,Int.reduceEq,Int.reduceNeg,xq_,y9,aG (bG d),aG (aV p),d0,dA,pA,hf,hff,zae,d3,d5,d7,a1,u1,u2,uP,ht]
     ·have hm:eG d ca p=gX d ca d.told:=by simp only [eG];rw [if_neg h1,if_neg s1,if_neg s4,if_pos s5,if_neg hn]
      rw [hm];obtain⟨K1,K2,a1,u1,u2,u3,u4⟩:=outs d.told;refine⟨K2,?_,u3,u4⟩;have ht:(gX d ca d.told).2.2=true:=rfl;simp only [Nat.reduceLT,Int.reduceEq,Int.reduceNeg,xq_,y9,aG (bG d),aG (aV p),d0,dA,pA,hf,hff,zae,d3,d5,hn,d8,a1,u1,u2,uP,ht]
    ·by_cases s6:d.step=6
     ·have hm:eG d ca p=(ca,{ d with step:=0 },true):=by simp only [eG];rw [if_neg h1,if_neg s1,if_neg s4,if_neg s5,if_pos s6]
      rw [hm];obtain⟨K1,K2,a1,dB,u1,u2,u3,u4⟩:=steps 0;refine⟨K2,?_,u3,u4⟩;rw [s6] at d3;simp only [Nat.reduceLT,Int.reduceEq,Int.reduceNeg,xq_,y9,aG (bG d),aG (aV p),d0,dA,pA,hf,hff,zae,d3,a1,dB,u1,u2,uP]
     ·have hm:eG d ca p=(ca,.zero,false):=by simp only [eG];rw [if_neg h1,if_neg s1,if_neg s4,if_neg s5,if_neg s6];rfl
      rw [hm];refine⟨Kz,?_,zu,s.trans z4⟩;simp only [Nat.reduceLT,Int.reduceNeg,xq_,y9,aG (bG d),aG (aV p),d0,dA,pA,hf,hff,zae,d3,s1,s4,s5,s6,ez,z1,z2,uP,mM]
end
section
variable {b:Nat}{H:ah}{g:bD}{q:Nat}
def RJ(G:Good b H g)(hb:H.base<=b){l:List Evn}(h:g q=some (nN l))(w:l.length<1000000)(e:Evn):
  ∃x j H1 d,ld (.ref q 0 0) H=some (x,H)/\app 85 4 32 x (.sl H.next 0 0 4 1 1 true) (H.new (.blk 0 85 e.av))=some (j,H1)/\st 1 (.ref q 0 0) j H1=some (bg,d)/\Good b d (upd g q (nN (l++[e])))/\Step b H d:=by
 obtain⟨x,k,c⟩:=G.seq h (i:=0) rfl;obtain⟨j,H1,d,o,p,u,v⟩:=(G.new (.blk 0 85 e.av)).append (e:=85) (by_:=32) (n:=l.length) (by rw [jD];exact hb) h (i:=0) rfl Z (dJ oW l) (c.new _) (kQ (ex:=true) (n:=1) (m:=4) (l:=e.av) rfl) (CV e) (by unfold most;omega) (by unfold most;omega);refine⟨x,j,H1,d,k,o,p,?_,(Step.new _ G.1).trans v⟩;have:nN (l++[e])=(nN l).set 0 (.seq 4 (l.flatMap Evn.av++e.av)):=by simp [nN]
 rw [this];exact u
def Yx(G:Good b H g)(hb:H.base<=b){l:List Evn}(h:g q=some (nN l))(d:l.length<1000000)(bF idx:Int):
  ∃H',cl 85 [.ref q 0 0,I bF,I idx] H=some (.tup [],H')/\Good b H' (upd g q (nN (l++[⟨bF,idx,false,0⟩])))/\Step b H H':=by
 obtain⟨x,u,H1,e,a0,i,j,k,o⟩:=RJ G hb h d ⟨bF,idx,false,0⟩;refine⟨e,bC rfl rfl (arZ _ _ _ _ _ ?_),k,o⟩;have p:bd 85 [(0,I bF),(1,I idx)]=some (.agg (Evn.mk bF idx false 0).av):=by
  simp only [xq_,alg,jC,gu,aiy,Evn.av];rfl
 simp only [xq_,amX,a0,p,adU,zbh,Nat.reduceLeDiff,lq (m:=4) (z:=[zI,zI,zB,zI]) (v:=.agg (Evn.mk bF idx false 0).av) rfl rfl (CV _),eX,i,j]
def afc(G:Good b H g)(hb:H.base<=b){l:List Evn}(h:g q=some (nN l))(d:l.length<1000000)(bF idx v:Int):
  ∃H',cl 118 [.ref q 0 0,I bF,I idx,I v] H=some (.tup [],H')/\Good b H' (upd g q (nN (l++[⟨bF,idx,true,v⟩])))/\Step b H H':=by
 obtain⟨x,u,H1,e,a0,i,j,k,o⟩:=RJ G hb h d ⟨bF,idx,true,v⟩;refine⟨e,bC rfl rfl (ant _ _ _ _ _ _ ?_),k,o⟩;have p:bd 85 [(0,I bF),(1,I idx),(2,B true),(3,I v)]=some (.agg (Evn.mk bF idx true v).av):=by
  simp only [xq_,alg,jC,gu,aiy,Evn.av];rfl
 simp only [xq_,agU,a0,p,adU,zbh,Nat.reduceLeDiff,lq (m:=4) (z:=[zI,zI,zB,zI]) (v:=.agg (Evn.mk bF idx true v).av) rfl rfl (CV _),eX,i,j]
end
section
variable {b:Nat}{H:ah}{g:bD}{q:Nat}
def acs(G:Good b H g)(hb:H.base<=b){p:Proc}(h:g q=some (rV p))(k:p.ops.length<1000)(m:p.bH.length<1000)(hv:p.bH.length<=p.ops.length):
  ∃v H',cl 84 [.ref q 0 0] H=some (v,H')/\Good b H' (upd g q (rV p.AX))/\Step b H H':=by
 have l2:=G.load h (i:=2) (x:=B p.eH) rfl;have j:=OD G h k m;cases d:p.eH with
 |true=>
  have hm:p.AX=p:=by simp [Proc.AX,d]
  rw [hm];rw [d] at l2;refine⟨I 6,H,bC rfl rfl (ajb _ _ _ ?_),by rw [fQ h];exact G,Step.refl _ _⟩;simp only [xq_,aeo,l2]
 |false=>
  rw [d] at l2;by_cases e:p.left=0
  ·have hc:p.cur=none:=by
    unfold Proc.cur;unfold Proc.left at e;exact zaG V
   have hm:p.AX=p:=by simp [Proc.AX,hc]
   rw [hm];rw [e] at j;refine⟨I 6,H,bC rfl rfl (ajb _ _ _ ?_),by rw [fQ h];exact G,Step.refl _ _⟩;simp only [xq_,aeo,l2,j]
  ·have hc:p.cur≠none:=by
    unfold Proc.cur;unfold Proc.left at e;intro o;have:=List.getElem?_eq_none_iff.1 o;omega
   have hm:p.AX={ p with eH:=true }:=by
    unfold Proc.AX;rw [if_neg (by rw [d];exact λh=>h.elim (λh=>(by cases h)) hc)]
   obtain⟨H',u,w,y,z⟩:=G.store hb h (i:=2) (v:=B true) (by simp [rV]) Fa;rw [hm];refine⟨I 0,H',bC rfl rfl (ajb _ _ _ ?_),w,y⟩;simp only [xq_,aeo,l2,j,e,u]
def aj2(G:Good b H g)(hb:H.base<=b){p:Proc}(h:g q=some (rV p))(F:p.bH.length<1000)(v:Int):
  ∃r H',cl 117 [.ref q 0 0,I v] H=some (r,H')/\Good b H' (upd g q (rV (p.C9 v)))/\Step b H H':=by
 have l2:=G.load h (i:=2) (x:=B p.eH) rfl;cases d:p.eH with
 |false=>
  have hm:p.C9 v=p:=by simp [Proc.C9,d]
  rw [hm];rw [d] at l2;refine⟨I 6,H,bC rfl rfl (agT _ _ _ _ ?_),by rw [fQ h];exact G,Step.refl _ _⟩;simp only [xq_,aaU,l2,zal]
 |true=>
  have hm:p.C9 v=⟨p.ops,p.bH++[v],false⟩:=by simp [Proc.C9,d]
  rw [hm];rw [d] at l2;obtain⟨x,o,c⟩:=G.seq h (i:=1) rfl;obtain⟨K,H1,L,u,w,y,j⟩:=(G.new (.blk 0 3 [I v])).append (e:=3) (by_:=8) (n:=p.bH.length) (by rw [jD];exact hb) h (i:=1) rfl Z O (c.new _) (kQ (ex:=true) (n:=1) (m:=1) (l:=[I v]) rfl) rfl (by unfold most;omega) (by unfold most;omega);have z:upd g q ((rV p).set 1 (.seq 1 (p.bH.map I++[I v]))) q=some ((rV p).set 1 (.seq 1 (p.bH.map I++[I v]))):=aQ;obtain⟨A,C,k,D,M⟩:=y.store (by rw [j.base,jD];exact hb) z (i:=2) (v:=B false) (by simp [rV]) Fa;rw [qp] at k;have E:∀H,bs 22 1 [(0,I v)] H=some (.sl H.next 0 0 1 1 1 true,H.new (.blk 0 3 [I v])):=λH=>(Qy Z).trans (lq rfl rfl rfl);refine⟨I 0,A,bC rfl rfl (agT _ _ _ _ ?_),?_,((Step.new _ G.1).trans j).trans D⟩
  ·simp only [xq_,aaU,l2,zae,o,E,u,w,C]
  ·have:rV ⟨p.ops,p.bH++[v],false⟩=((rV p).set 1 (.seq 1 (p.bH.map I++[I v]))).set 2 (.av (B false)):=by simp [rV]
   rw [this];exact k
end
section
variable {b:Nat}{H:ah}{g:bD}{q:Nat}
def aj3(G:Good b H g)(hb:H.base<=b){p:Proc}(h:g q=some (rV p))(R:p.ops.length<1000)(T:p.bH.length<1000)(hv:p.bH.length<=p.ops.length):
  ∃H',cl 74 [.ref q 0 0] H=some (.tup [.agg p.op.av,I p.idx,B p.cur.isSome],H')/\Good b H' g/\Step b H H':=by
 refine kS rfl rfl (arO _ _ _) ?_;have L:=(Loc.of G).newL (ty:=53) (xs:=[zI,zI,zI]) (r:=H.next) rfl rfl;have E:Step b H _:=Step.new (.blk 0 53 [zI,zI,zI]) G.1;have v:=OD L.good (L.obj h) R T;have d:(H.new (.blk 0 53 [zI,zI,zI])).base<=b:=by rw [jD];exact hb
 have W:Opn.zero.av=[zI,zI,zI]:=rfl;by_cases j:p.left=0
 ·have hc:p.cur=none:=by
   unfold Proc.cur;unfold Proc.left at j;exact zaG (by omega)
  obtain⟨K,e,w,y,z⟩:=L.whole d ak (n:=3) (vs:=[zI,zI,zI]) rfl rfl (by decide) rfl;have X:bd 53 []=some (.agg [zI,zI,zI]):=by simp only [xq_,adW,jC,eu]
  refine⟨K,?_,y.out,E.trans z⟩;rw [j] at v;have hi:p.idx=0:=by simp [Proc.idx,hc]
  have m:p.op.av=[zI,zI,zI]:=by simp only [Proc.op,hc,za4];exact W
  simp only [xq_,ai6,v,X,e,w,hi,m,hc,zaK]
 ·have A:p.bH.length<p.ops.length:=by unfold Proc.left at j;omega
  obtain⟨o,m⟩:∃o,p.ops[p.bH.length]?=some o:=⟨_,zab A⟩
  have hc:p.cur=some o:=m;have l0:=L.good.load (L.obj h) (i:=0) (x:=vsl 3 Opn.av p.ops) rfl;obtain⟨x,u,c⟩:=L.good.seq (L.obj h) (i:=1) rfl;have e2:=(c.is (n:=p.bH.length) (by decide) (by simp)).lnS;have hs:=Ib eP (H.new (.blk 0 53 [zI,zI,zI])) p.ops;have F:=hs.ix (k:=.i64) (i:=(p.bH.length:Int)) (by omega) (by omega);rw [zar] at F;have e4:=lK eP hs m;obtain⟨K,e,w,y,z⟩:=L.whole d ak (n:=3) (vs:=o.av) rfl (eP _) (by decide) (pq _);have c1:∀{β:Type} (k:Option β),ck (bT (.ref q 0 1)) (H.new (.blk 0 53 [zI,zI,zI])) K k=k:=λk=>wL (pY e (by have:=G.lt h;omega));have c2:∀{β:Type} (k:Option β),ck (bT x) (H.new (.blk 0 53 [zI,zI,zI])) K k=k:=λk=>abQ λr M=>by
   refine pY e ?_;obtain⟨c0,aa,Q⟩:=G.seq h (i:=1) rfl;have C:x=c0:=by
    have:=(Q.new (.blk 0 53 [zI,zI,zI])).load;rw [this] at u;simp only [zaa,zad] at u;exact u.1.symm
   subst C;rcases Q.length (n:=p.bH.length) (by decide) (by simp) with⟨rfl,_⟩|⟨r',gg,off,ab,ex,ty,all,rfl,q1,q2,q3,_⟩
   ·cases M
   ·simp only [bT,zaa] at M;omega
  refine⟨K,?_,y.out,E.trans z⟩;have hi:p.idx=p.bH.length:=by simp [Proc.idx,hc]
  have D:p.op=o:=by simp [Proc.op,hc]
  simp only [xq_,ai6,v,j,l0,u,e2,F,e4,e,w,c1,c2,hi,D,hc,zaL]
end
def apn {β:Type}{s b:Nat}{H H':ah}{k:Option β}(h:∀r,s<=r->r<b->H'.get r=H.get r):ckR s b H H' k=k:=if_pos h
def LJ(r gg o:Nat)(v:AV){H H':ah}(h:st 1 (.ref r gg (o+1)) v H=some (bg,H')):cl 172 [.ref r gg o,v] H=some (.tup [],H'):=by
 refine bC rfl rfl (aos _ _ _ _ ?_);simp only [xq_,ahw,h]
def acu(r gg o:Nat)(v:AV){H H':ah}(h:st 1 (.ref r gg o) v H=some (bg,H')):cl 173 [.ref r gg o,v] H=some (.tup [],H'):=by
 refine bC rfl rfl (aot _ _ _ _ ?_);simp only [xq_,ahx,h]
section
variable {b:Nat}{H:ah}{g:bD}{q:Nat}{ca:Cache}
def OW {K:ah}{ls:Lcl}(L:Loc b K g ls)(hb:K.base<=b)(h:g q=some (dH ca))(C:COk ca)(e:Ent)(p:e.data.length<1000000000)(out:Pkt){r4 r6 r8:Nat}(k4:ls r4=some zP9)(u:ls r6=some e.av)(d:ls r8=some out.av):
  ∃H',yB cl (.ref q 0 0) (.ref r4 0 0) (.ref r6 0 0) (.ref r8 0 0) K=some (.tup [.agg out.av,I (ca.put e).2],H')/\Good b H' (upd g q (dH (ca.put e).1))/\Step b K H':=by
 have v:=L.lda d (i:=0) (n:=9) (ys:=out.av) rfl rfl Z;have w:=L.lda u (i:=0) (n:=6) (ys:=e.av) rfl rfl Z;obtain⟨y,m,z,o⟩:=BN L.good hb (L.obj h) C e p;have M:=L.call h z;have j:∀{β:Type} (k:Option β),ck (bT (.ref r8 0 0)) K y k=k:=λk=>wL (Xc L.good M.good (WZ _ _ _ _ _ m) (qK d) (qK d));obtain⟨A,D,E,F,G⟩:=M.whole (by rw [o.base];exact hb) k4 (n:=9) (vs:=out.av) rfl rfl Z (aV _);refine⟨A,?_,F.out,o.trans G⟩;simp only [xq_,yB,v,w,m,D,E,j]
end
section
variable {b:Nat}{H:ah}{g:bD}{q:Nat}{ca:Cache}
def Y6(r:Cache × Pkt × Int):AV:=.tup [.agg r.2.1.av,I r.2.2]
def RN(G:Good b H g)(hb:H.base<=b)(h:g q=some (dH ca))(C:COk ca)(p:Pkt)(hx:(!p.ok || decide (p.aS<3) || decide (6<p.aS))=true∨ca.find p.aj=none):
  ∃H',cl 130 [.ref q 0 0,.agg p.av] H=some (Y6 (fU ca p),H')/\Good b H' (upd g q (dH (fU ca p).1))/\Step b H H':=by
 refine kS rfl rfl (ag1 _ _ _ _) ?_;have L1:=(Loc.of G).newL (ty:=112) (xs:=p.av) (r:=H.next) (aV p) rfl;have L2:=L1.newL (ty:=112) (xs:=zP9) (r:=H.next+1) rfl (by rw [fB]);have s2:Step b H _:=(Step.new (.blk 0 112 p.av) G.1).trans (Step.new (.blk 0 112 zP9) L1.good.1);have k0:iR (iR noL H.next p.av) (H.next+1) zP9 H.next=some p.av:=by rw [aB (by omega),ak]
 have p0:=L2.ld k0 (i:=0) (v:=I p.aS) rfl;have p4:=L2.ld k0 (i:=4) (v:=I p.aj) rfl;have pA:=L2.lda k0 (i:=0) (n:=9) (ys:=p.av) rfl rfl (by decide);have ck:=λH=>BI H p;have ez:bd 112 []=some (.agg zP9):=by simp only [xq_,qZ,jC,eu]
 have hbK:((H.new (.blk 0 112 p.av)).new (.blk 0 112 zP9)).base<=b:=by rw [s2.base];exact hb
 by_cases h1:(!p.ok || decide (p.aS<3) || decide (6<p.aS))=true
 ·have hm:fU ca p=(ca,.zero,1):=by simp only [fU];rw [if_pos h1]
  rw [hm];obtain⟨K,z1,z2,z3,z4⟩:=L2.whole hbK ak (n:=9) (vs:=zP9) rfl rfl (by decide) rfl;refine⟨K,?_,by rw [fQ h];exact z3.out,s2.trans z4⟩;cases hok:p.ok with
  |false=>
   rw [hok] at ck;simp only [Nat.reduceLT,Int.reduceEq,xq_,Bq,aG (aV p),pA,ck,zal,ez,z1,z2,Y6,fP]
  |true=>
   rw [hok] at ck h1;by_cases h3:p.aS<3
   ·simp only [Nat.reduceLT,xq_,Bq,aG (aV p),pA,ck,zae,p0,h3,ez,z1,z2,Y6,fP]
   ·have h6:6<p.aS:=by simpa [h3] using h1
    simp only [Nat.reduceLT,xq_,Bq,aG (aV p),pA,ck,zae,p0,h3,h6,ez,z1,z2,Y6,fP]
 ·have hfn:ca.find p.aj=none:=hx.resolve_left h1;have hm:fU ca p=(ca,.zero,3):=by simp only [fU,hfn];rw [if_neg h1];rfl
  rw [hm];have hok:p.ok=true/\¬p.aS<3/\¬6<p.aS:=by
   cases ho:p.ok <;> simp_all
  have ef:=rH L2.good (L2.obj h) C.len C.dat p.aj;rw [hfn] at ef;simp only [qh,za4,zaK,vV] at ef;have LE:=L2.newL (ty:=166) (xs:=zE6) (r:=H.next+1+1) rfl (by rw [fB,fB]);have sE:Step b H _:=s2.trans (Step.new (.blk 0 166 zE6) L2.good.1);obtain⟨KE,x1,x2,ME,x4⟩:=LE.whole (by rw [sE.base];exact hb) ak (n:=6) (vs:=zE6) rfl rfl (by decide) rfl;have tE:=sE.trans x4;obtain⟨K,z1,z2,z3,z4⟩:=ME.whole (by rw [tE.base];exact hb) (r:=H.next+1) (xs:=zP9) (by rw [aB (by omega),aB (by omega),ak]) (n:=9) (vs:=zP9) rfl rfl (by decide) rfl;refine⟨K,?_,by rw [fQ h];exact z3.out,tE.trans z4⟩;rw [hok.1] at ck;simp only [Nat.reduceLT,xq_,Bq,aG (aV p),pA,ck,zae,zal,p0,hok.2.1,hok.2.2,p4,ef,x1,ez,z1,z2,Y6,fP]
end
section
variable {b:Nat}{H:ah}{g:bD}{q:Nat}{ca:Cache}
def afd(G:Good b H g)(hb:H.base<=b)(h:g q=some (dH ca))(C:COk ca)(p:Pkt)(hx:¬(!p.ok || decide (p.aS<3) || decide (6<p.aS))=true){e:Ent}(hfd:ca.find p.aj=some e):
  ∃H',cl 130 [.ref q 0 0,.agg p.av] H=some (Y6 (fU ca p),H')/\Good b H' (upd g q (dH (fU ca p).1))/\Step b H H':=by
 have hok:p.ok=true/\¬p.aS<3/\¬6<p.aS:=by
  cases ho:p.ok <;> simp_all
 have he:e.data.length<1000000000:=C.dat e (zba hfd);refine kS rfl rfl (ag1 _ _ _ _) ?_;have L1:=(Loc.of G).newL (ty:=112) (xs:=p.av) (r:=H.next) (aV p) rfl;have L2:=L1.newL (ty:=112) (xs:=zP9) (r:=H.next+1) rfl (by rw [fB]);have s2:Step b H _:=(Step.new (.blk 0 112 p.av) G.1).trans (Step.new (.blk 0 112 zP9) L1.good.1);have k0:iR (iR noL H.next p.av) (H.next+1) zP9 H.next=some p.av:=by rw [aB (by omega),ak]
 have p0:=L2.ld k0 (i:=0) (v:=I p.aS) rfl;have p4:=L2.ld k0 (i:=4) (v:=I p.aj) rfl;have pA:=L2.lda k0 (i:=0) (n:=9) (ys:=p.av) rfl rfl (by decide);have ck:=λH=>BI H p;have ef:=rH L2.good (L2.obj h) C.len C.dat p.aj;rw [hfd] at ef;simp only [qh,zaw,zaL] at ef;have LE:=L2.newL (ty:=166) (xs:=zE6) (r:=H.next+1+1) rfl (by rw [fB,fB]);have sE:Step b H _:=s2.trans (Step.new (.blk 0 166 zE6) L2.good.1);obtain⟨KE,x1,x2,ME,x4⟩:=LE.whole (by rw [sE.base];exact hb) ak (n:=6) (vs:=e.av) rfl rfl (by decide) (lU e);have tE:=sE.trans x4;have nE:H.next+1+1<KE.next:=ME.good.lt (qK (g:=g) ak)
 have LO:=ME.newL (ty:=112) (xs:=zP9) (r:=KE.next) rfl rfl;have tO:=tE.trans (Step.new (.blk 0 112 zP9) ME.good.1);let out:Pkt:=⟨CX p.aS,p.dst,p.src,p.id,p.aj,0,0,false,[]⟩
 have y0:∀{xs:List AV} {l:Lcl},True:=λ{_ _}=>trivial;obtain⟨K0,o1,o2,M0,o4⟩:=LO.whole (by rw [jD,tE.base];exact hb) (r:=KE.next) ak (n:=9) (vs:=out.av) rfl (bZ _) (by decide) (aV _);have t0:=tO.trans o4;have hbK:K0.base<=b:=by rw [t0.base];exact hb
 have ebd:bd 112 [(0,I (CX p.aS)),(1,I p.dst),(2,I p.src),(3,I p.id),(4,I p.aj)]=some (.agg out.av):=by
  simp only [xq_,qZ,jC,gu,Hw,out,Pkt.av,EC];rfl
 have ea:=λH=>RD H p.aS;have m0:∀{l:Lcl},iR (iR (iR (iR (iR (iR noL H.next p.av) (H.next+1) zP9) (H.next+1+1) zE6) (H.next+1+1) e.av) KE.next zP9) KE.next out.av H.next=some p.av:=λ{_}=>by
  rw [aB (by omega),aB (by omega),aB (by omega),aB (by omega),aB (by omega),ak]
 have kE0:iR (iR (iR (iR (iR noL H.next p.av) (H.next+1) zP9) (H.next+1+1) zE6) (H.next+1+1) e.av) KE.next zP9 H.next=some p.av:=by
  rw [aB (by omega),aB (by omega),aB (by omega),aB (by omega),ak]
 have r0:=LO.ld kE0 (i:=0) (v:=I p.aS) rfl;have r1:=LO.ld kE0 (i:=1) (v:=I p.src) rfl;have r2:=LO.ld kE0 (i:=2) (v:=I p.dst) rfl;have r3:=LO.ld kE0 (i:=3) (v:=I p.id) rfl;have r4:=LO.ld kE0 (i:=4) (v:=I p.aj) rfl;have q0:=M0.ld (m0 (l:=noL)) (i:=0) (v:=I p.aS) rfl;have q5:=M0.ld (m0 (l:=noL)) (i:=5) (v:=I p.ptr) rfl;rw [hok.1] at ck;by_cases h4:p.aS=4
 ·have hm:fU ca p=((ca.put { e with fwd:=p.ptr }).1,out,(ca.put { e with fwd:=p.ptr }).2):=by
   simp only [fU,hfd];rw [if_neg hx,if_neg (by omega),if_pos h4]
  rw [hm];obtain⟨K1,u1,M1,w1⟩:=M0.st hbK (r:=H.next+1+1) (xs:=e.av) (by rw [aB (by omega),aB (by omega),ak]) (i:=0) (v:=I p.ptr) (by simp [Ent.av]) dP;have t1:=t0.trans w1;obtain⟨H',f1,f2,f3⟩:=OW M1 (by rw [t1.base];exact hb) h C { e with fwd:=p.ptr } he out (r4:=H.next+1) (r6:=H.next+1+1) (r8:=KE.next) (by rw [aB (by omega),aB (by omega),aB (by omega),aB (by omega),aB (by omega),ak]) (by rw [ak];rfl) (by rw [aB (by omega),ak]);refine⟨H',?_,f2,t1.trans f3⟩;have sf:=acu _ _ _ _ u1;rw [h4] at q0;simp only [Nat.reduceLT,Int.reduceEq,xq_,Bq,aG (aV p),pA,ck,zae,p0,hok.2.1,hok.2.2,p4,ef,x1,r0,ea,r1,r2,r3,r4,ebd,o1,q0,q5,sf,f1,Y6]
 ·by_cases h5:p.aS=5
  ·have hm:fU ca p=((ca.put { e with back:=p.ptr }).1,out,(ca.put { e with back:=p.ptr }).2):=by
    simp only [fU,hfd];rw [if_neg hx,if_neg (by omega),if_neg h4,if_pos h5]
   rw [hm];obtain⟨K1,u1,M1,w1⟩:=M0.st hbK (r:=H.next+1+1) (xs:=e.av) (by rw [aB (by omega),aB (by omega),ak]) (i:=1) (v:=I p.ptr) (by simp [Ent.av]) dP;have t1:=t0.trans w1;obtain⟨H',f1,f2,f3⟩:=OW M1 (by rw [t1.base];exact hb) h C { e with back:=p.ptr } he out (r4:=H.next+1) (r6:=H.next+1+1) (r8:=KE.next) (by rw [aB (by omega),aB (by omega),aB (by omega),aB (by omega),aB (by omega),ak]) (by rw [ak];rfl) (by rw [aB (by omega),ak]);refine⟨H',?_,f2,t1.trans f3⟩;have sf:=LJ _ _ 0 _ u1;rw [h5] at q0;simp only [Nat.reduceLT,Int.reduceEq,xq_,Bq,aG (aV p),pA,ck,zae,p0,hok.2.1,hok.2.2,p4,ef,x1,r0,ea,r1,r2,r3,r4,ebd,o1,q0,q5,sf,f1,Y6]
  ·have zE:iR (iR (iR (iR (iR (iR noL H.next p.av) (H.next+1) zP9) (H.next+1+1) zE6) (H.next+1+1) e.av) KE.next zP9) KE.next out.av (H.next+1+1)=some e.av:=by rw [aB (by omega),aB (by omega),ak]
   have g5:=M0.ld zE (i:=5) (v:=dat e.data) rfl;have g4:=M0.ld zE (i:=4) (v:=B e.dn) rfl;have g0:=M0.ld zE (i:=0) (v:=I e.fwd) rfl;obtain⟨K1,u1,M1,w1⟩:=M0.st hbK (r:=KE.next) ak (i:=8) (v:=dat e.data) (by simp [Pkt.av]) tJ;have t1:=t0.trans w1;obtain⟨K2,u2,M2,w2⟩:=M1.st (by rw [t1.base];exact hb) (r:=KE.next) ak (i:=7) (v:=B e.dn) (by simp [Pkt.av]) Fa;have t2:=t1.trans w2;have c1:∀{β:Type} (o:Nat) (k:Option β),Proofs.YtljogojaihgdlaaGreat.ck (bT (.ref (H.next+1+1) 0 o)) K0 K1 k=k:=λo k=>wL (pY u1 (by omega));have c2:∀{β:Type} (o:Nat) (k:Option β),Proofs.YtljogojaihgdlaaGreat.ck (bT (.ref (H.next+1+1) 0 o)) K1 K2 k=k:=λo k=>wL (pY u2 (by omega));by_cases h3:p.aS=3
   ·have hm:fU ca p=((ca.put { e with dn:=false,back:=p.ptr }).1,{ out with data:=e.data,flag:=e.dn },(ca.put { e with dn:=false,back:=p.ptr }).2):=by
     simp only [fU,hfd];rw [if_neg hx,if_pos h3]
    rw [hm];obtain⟨K3,u3,M3,w3⟩:=M2.st (by rw [t2.base];exact hb) (r:=H.next+1+1) (xs:=e.av) (by rw [aB (by omega),aB (by omega)];exact zE) (i:=4) (v:=B false) (by simp [Ent.av]) Fa;have t3:=t2.trans w3;have q5':=M3.ld (r:=H.next) (xs:=p.av) (i:=5) (v:=I p.ptr) (by rw [aB (by omega),aB (by omega),aB (by omega)];exact m0 (l:=noL)) rfl;obtain⟨K4,u4,M4,w4⟩:=M3.st (by rw [t3.base];exact hb) (r:=H.next+1+1) ak (i:=1) (v:=I p.ptr) (by simp [Ent.av]) dP;have t4:=t3.trans w4;obtain⟨H',f1,f2,f3⟩:=OW M4 (by rw [t4.base];exact hb) h C { e with dn:=false,back:=p.ptr } he { out with data:=e.data,flag:=e.dn } (r4:=H.next+1) (r6:=H.next+1+1) (r8:=KE.next) (by rw [aB (by omega),aB (by omega),aB (by omega),aB (by omega),aB (by omega),aB (by omega),aB (by omega),aB (by omega),ak]) (by rw [ak];rfl) (by rw [aB (by omega),aB (by omega),ak];rfl);refine⟨H',?_,f2,t4.trans f3⟩;have sf:=LJ _ _ 0 _ u4;rw [h3] at q0;simp only [Nat.reduceLT,Int.reduceEq,xq_,Bq,aG (aV p),pA,ck,zae,p0,hok.2.1,hok.2.2,p4,ef,x1,r0,ea,r1,r2,r3,r4,ebd,o1,q0,g5,g4,u1,u2,c1,u3,q5',sf,f1,Y6]
   ·have h6:p.aS=6:=by omega
    have hm:fU ca p=(ca.drop p.aj,{ out with data:=e.data,flag:=e.dn,ptr:=e.fwd },0):=by
     simp only [fU,hfd];rw [if_neg hx,if_neg h3,if_neg h4,if_neg h5]
    rw [hm];obtain⟨K3,u3,M3,w3⟩:=M2.st (by rw [t2.base];exact hb) (r:=KE.next) ak (i:=5) (v:=I e.fwd) (by simp [Pkt.av]) dP;have t3:=t2.trans w3;have q4:=M3.ld (r:=H.next) (xs:=p.av) (i:=4) (v:=I p.aj) (by rw [aB (by omega),aB (by omega),aB (by omega)];exact m0 (l:=noL)) rfl;obtain⟨K4,a1,a2,a3⟩:=I9 M3.good (by rw [t3.base];exact hb) (M3.obj h) C.len C.dat p.aj;have M4:=M3.call h a2;have t4:=t3.trans a3;have lo:=M4.lda (r:=KE.next) ak (i:=0) (n:=9) (ys:=({ out with data:=e.data,flag:=e.dn,ptr:=e.fwd }:Pkt).av) rfl rfl (by decide);obtain⟨K5,v1,v2,v3,v4⟩:=M4.whole (by rw [t4.base];exact hb) (r:=H.next+1) (xs:=zP9) (by rw [aB (by omega),aB (by omega),aB (by omega),aB (by omega),aB (by omega),aB (by omega),aB (by omega),ak]) (n:=9) (vs:=({ out with data:=e.data,flag:=e.dn,ptr:=e.fwd }:Pkt).av) rfl (bZ _) (by decide) (aV _);refine⟨K5,?_,v3.out,t4.trans v4⟩;rw [h6] at q0;simp only [Nat.reduceLT,Int.reduceEq,xq_,Bq,aG (aV p),pA,ck,zae,p0,hok.2.1,hok.2.2,p4,ef,x1,r0,ea,r1,r2,r3,r4,ebd,o1,q0,g5,g4,g0,u1,u2,u3,c1,c2,q4,a1,lo,v1,v2,Y6]
end
section
variable {b:Nat}{H:ah}{g:bD}{q d tt:Nat}{c:Cfg}{me:Int}{h:Home}
def Yy(G:Good b H g)(N:oL g q d tt c me h)(T:TOk h.aT):cl 78 [.ref q 0 0] H=some (B (decide (h.ready≠[])),H):=by
 refine dw rfl rfl (arT _ _ _) ?_ iy;have l1:=G.guard.load N.1 (i:=1) (x:=.ref tt 0 0) rfl;have j:=LG G.guard N.2.2 T;have k:=(kZ H.guard h.ready).lnS;have m:h.aT.ready (srt [] (h.aT.wait.map (·.1)))=h.ready:=rfl;rw [m] at j;by_cases e:h.ready=[]
 ·have:¬(0:Int)<(h.ready.length:Int):=by rw [e];decide
  simp only [xq_,ai8,l1,j,e,ne_eq,not_true_eq_false]
  try rfl
 ·have:(0:Int)<(h.ready.length:Int):=by
   cases o:h.ready with
   |nil=>exact absurd o e
   |cons a l=>simp only [zam];omega
  simp only [xq_,ai8,l1,j,k,this,e,ne_eq,not_false_eq_true]
end
section
variable {b:Nat}{H:ah}{g:bD}{q d tt:Nat}{c:Cfg}{me:Int}{h:Home}
def afe(G:Good b H g)(hb:H.base<=b)(N:oL g q d tt c me h)(T:TOk h.aT)(hr:∀e∈h.dK,e.2.data.length<1000000000):
  ∃H',cl 80 [.ref q 0 0] H=some (.tup [.agg (h.grant me).2.1.av,B (h.grant me).2.2],H')/\Good b H' (lV g d tt c (h.grant me).1)/\Step b H H':=by
 refine kS rfl rfl (arV _ _ _) ?_;have L:=(Loc.of G).newL (ty:=112) (xs:=zP9) (r:=H.next) rfl rfl;have s1:Step b H _:=Step.new (.blk 0 112 zP9) G.1;have hbK:(H.new (.blk 0 112 zP9)).base<=b:=by rw [jD];exact hb
 have l1:=L.good.load (L.obj N.1) (i:=1) (x:=.ref tt 0 0) rfl;have e1:=LG L.good (L.obj N.2.2) T;have e2:=(kZ (H.new (.blk 0 112 zP9)) h.ready).lnS;have hre:h.aT.ready (srt [] (h.aT.wait.map (·.1)))=h.ready:=rfl;rw [hre] at e1;have ez:bd 112 []=some (.agg zP9):=by simp only [xq_,qZ,jC,eu]
 cases hz:h.ready with
 |nil=>
  have hm:h.grant me=(h,.zero,false):=by simp only [Home.grant,hz]
  rw [hm,F9 N];obtain⟨K,z1,z2,z3,z4⟩:=L.whole hbK ak (n:=9) (vs:=zP9) rfl rfl (by decide) rfl;refine⟨K,?_,z3.out,s1.trans z4⟩;rw [hz] at e1 e2;have n0:¬((0:Int)<((([]:List Int).length:Nat):Int)):=by decide
  simp only [xq_,aja,l1,e1,e2];rw [aaK];simp only [xq_,n0,ez,z1,z2,fP]
 |cons aj rest=>
  obtain⟨m1,m2,_⟩:=xJ hz;obtain⟨w,ws,hw⟩:∃w ws,h.aT.ws aj=w::ws:=by
   cases hx:h.aT.ws aj with
   |nil=>exact absurd hx m2
   |cons a l=>exact⟨a,l,rfl⟩
  have hn:h.aT.next aj=(⟨mV h.aT.gK aj w.1,mV h.aT.wait aj ws⟩,some w):=by simp only [Turns.next,m1,hw,zai,if_false]
  have hm:h.grant me=({ h with aT:=(h.aT.next aj).1 },granted h.dK me aj w.1 w.2,true):=by simp only [Home.grant,hz,hn]
  rw [hm];obtain⟨K1,a1,a2,a3⟩:=ab3 L.good hbK (L.obj N.2.2) T.nd aj (T.ws aj);have M:=L.call N.2.2 a2;have NK:=N.ajT { h with aT:=(h.aT.next aj).1 };rw [zY N] at NK ⊢;have NL:oL (lay (upd g tt (iV (h.aT.next aj).1)) (iR noL H.next zP9)) q d tt c me { h with aT:=(h.aT.next aj).1 }:=⟨M.obj NK.1,M.obj NK.2.1,M.obj NK.2.2⟩
  have gr:=LD M.good NL hr aj w.1 w.2;obtain⟨K,z1,z2,z3,z4⟩:=M.whole (by rw [a3.base];exact hbK) ak (n:=9) (vs:=(granted h.dK me aj w.1 w.2).av) rfl (bZ _) (by decide) (aV _);refine⟨K,?_,z3.out,(s1.trans a3).trans z4⟩;have hs:=kZ (H.new (.blk 0 112 zP9)) h.ready;have x1:=hs.ix (k:=.i64) (i:=(0:Int)) (by omega) (by rw [hz];simp only [zam];omega);have x2:=hs.ld (i:=0) (by rw [hz];simp);rw [hz] at x1 x2 e1 e2;simp only [zay,zaT,zaj] at x2;rw [show((0:Int).toNat)=0 from rfl] at x1;have n0:(0:Int)<(((aj::rest).length:Nat):Int):=by simp only [zam];omega
  rw [hn] at a1;simp only [aoX,zaw,zaL] at a1;simp only [xq_,aja,l1,e1,e2];rw [aaK];simp only [xq_,n0,x1,x2,l1,a1,gr,z1,z2]
end
structure NS(c:Cfg)(me:Int)(n:Node)(r:jF):Prop where
 sim:ap2 c me n r
 rok:(r.homes.aT.owner.map (·.1)).Nodup
 rge:∀o∈r.homes.aT.owner,0<=o.2
def NS.cs {c:Cfg}{me:Int}{n:Node}{r:jF}(S:NS c me n r):Dc n.aH r.aH:=⟨S.sim.sets,S.sim.ways,S.sim.dh,S.sim.sorted,S.sim.perm⟩
def NS.hs {c:Cfg}{me:Int}{n:Node}{r:jF}(S:NS c me n r):KR c me n.home r.homes:=⟨S.sim.dK,S.sim.none,⟨S.sim.owner,S.sim.waits,S.rok,S.rge⟩⟩
def NS.of {c:Cfg}{me:Int}{n:Node}{r:jF}(C:Dc n.aH r.aH)(H:KR c me n.home r.homes)(b:r.ops=n.bQ.ops)(d:r.bH=n.bQ.bH)(e:r.eH=n.bQ.eH)(g:r.has=!decide (n.aI.step=0))(h:r.aI=if n.aI.step=0 then .zero else n.aI)(i:r.num=n.num):NS c me n r:=
 ⟨⟨b,d,e,g,h,i,C.sets,C.ways,C.dh,C.sorted,C.perm,H.dK,H.none,H.aT.owner,H.aT.waits⟩,H.aT.rok,H.aT.rge⟩
structure aut(c:Cfg)(o:Opn):Prop where
 k1:1<=o.aS
 k4:o.aS<=4
 aj:c.bV o.addr=o.addr.tdiv c.bI
 lo:0<=c.bV o.addr
 hi:c.bV o.addr<c.aY
 word:c.dI o.addr=o.addr.tmod c.bI
 wlo:0<=c.dI o.addr
 whi:c.dI o.addr<c.bI
def aqa {c:Cfg}(hc:c.ok=true){o:Opn}(h:c.right o=true):aut c o:=by
 obtain⟨_,m,hw,_⟩:=mF hc;unfold Cfg.right at h;simp only [zah,decide_eq_true_eq] at h;obtain⟨⟨⟨i,j⟩,k⟩,_⟩:=h;have b:¬(o.addr<0∨c.kV<=o.addr):=λe=>k (by unfold Cfg.bV;rw [if_pos e]);simp only [not_or] at b;have d:c.bV o.addr=o.addr / c.bI:=by unfold Cfg.bV;rw [if_neg (by simp only [not_or];exact b)]
 have g:c.dI o.addr=o.addr % c.bI:=by unfold Cfg.dI;rw [if_neg (by simp only [not_or];exact b)]
 have ha:o.addr<c.aY*c.bI:=by have:=b.2;unfold Cfg.kV at this;omega
 refine⟨i,j,?_,?_,?_,?_,?_,?_⟩
 ·rw [d,Int.tdiv_eq_ediv_of_nonneg V]
 ·rw [d];exact zdz V V
 ·rw [d];exact Int.ediv_lt_of_lt_mul V ha
 ·rw [g,zbt V]
 ·rw [g];exact zch _ V
 ·rw [g];exact zct _ V
def rM(e:Ent)(o:Opn)(w:Int):(eU e o w).aj=e.aj/\(eU e o w).used=e.used/\(eU e o w).dn=e.dn/\(eU e o w).data.length=e.data.length:=by
 unfold eU;split
 ·unfold Ent.write;split <;> simp
 ·split
  ·unfold Ent.write;split <;> simp
  ·simp
def Yz {c:Cfg}{e:Ent}{o:Opn}{w:Int}(hd:qA c e.data)(d:I64 o.value):qA c (eU e o w).data:=by
 refine⟨by rw [(rM e o w).2.2.2];exact hd.1,?_⟩;have key:∀v,I64 v->∀x∈(e.write w v).data,I64 x:=by
  intro v hv x b;unfold Ent.write at b;split at b
  ·rcases zbV b with h|h
   ·exact hd.2 x h
   ·rw [h];exact hv
  ·exact hd.2 x b
 unfold eU;split
 ·exact key _ d
 ·split
  ·exact key _ (alX _)
  ·exact hd.2
structure Eff(c:Cfg)(me:Int)(n:Node)(r:jF)(t:List Evn)(A:NT)(B:RNT):Prop where
 sim:Dc A.1.aH B.1.aH
 rest:B.1={ r with aH:=B.1.aH,bH:=n.bQ.bH++[A.2.getLast?.elim 0 (·.value)],eH:=false }
 asK:A.1={ n with aH:=A.1.aH,bQ:=⟨n.bQ.ops,n.bQ.bH++[A.2.getLast?.elim 0 (·.value)],false⟩ }
 ev:B.2=A.2
 inv:Fp c A.1.aH
 len:A.2.length=t.length+1
def OX {ca:Cache}(b:Lines ca.l){e:Ent}(h0:0<=e.aj)(g:ca.full e.aj=false):∃u,(ca.put e).1.find e.aj=some { e with used:=u }:=by
 cases h:ca.find e.aj with
 |some x=>
  refine⟨x.used,?_⟩;rw [mD b h0 h];obtain⟨i,d⟩:=(iL b).1 h;unfold Cache.find;rw [iL (Bc b λy _=>by
   split
   ·rename_i h;exact h.symm
   ·rfl)]
  exact⟨zaJ.2 ⟨x,i,by rw [if_pos d]⟩,rfl⟩
 |none=>
  refine⟨ca.dh+1,?_⟩;unfold Cache.put;rw [if_neg V,zU.2 h];simp only [g,zai,if_false];unfold Cache.find;rw [zdN];have:(ca.l.find? λx=>decide (x.aj=e.aj))=none:=h;rw [this];simp
def Jg(ca:Cache)(e:Ent):(ca.put e).1.dh<=ca.dh+1:=by
 unfold Cache.put;split
 ·simp only;omega
 ·split
  ·simp only;omega
  ·split <;> simp only <;> omega
def DR(ca:Cache)(aj:Int):(ca.drop aj).dh=ca.dh:=by
 unfold Cache.drop;split <;> rfl
def sZ(me:Int)(n:Node)(p:Pkt):n.after me p=En n.aI me n.aH p:=rfl
def BP {d:bJ}{me:Int}{ca:Cache}{p:Pkt}(h:d.fits p=false):En d me ca p=wM ca:=by
 have b:dY d me ca p=wM ca:=by unfold dY;rw [if_pos (.inr h)]
 have e:dZ d me ca p=wM ca:=by unfold dZ;rw [if_pos (.inr h)]
 have g:eG d ca p=wM ca:=by unfold eG;rw [if_pos (.inr h)]
 unfold En;rw [b,e,g];split
 ·rfl
 ·split
  ·rfl
  ·split <;> rfl
def acv {d:bJ}{p:Pkt}(h:d.fits p=true):p.aS=CX (AL d.step):=by
 unfold bJ.fits at h;simp only [zah,decide_eq_true_eq] at h;exact h.1.1.2
structure Jh(c:Cfg)(d:bJ)(ca:Cache)(d':bJ)(ca':Cache):Prop where
 inv:Fp c ca'
 aj:d'.aj=d.aj
 aS:d'.aS=d.aS
 dat:d'.data=[]∨qA c d'.data
 aiG:d'.aS=2->d'.step=3->qA c d'.data
 clk:ca'.dh<=ca.dh∨(d.aS≠3/\d'.step=6/\ca'.dh<=ca.dh+1)
 way:(d.step=6/\d'.step=0/\ca'=ca)∨(d'.step≠0/\d.step≠6/\(d.aS≠3->(d'.step≠6/\ca'=ca)∨(d'.step=6/\∃e,ca'.find d.aj=some e/\(d.aS=2->e.dn=true))))
def Xd {c:Cfg}{ca:Cache}(I:Fp c ca){d:bJ}{me:Int}(h0:0<=d.aj)(o:d.aj<c.aY)(p:ca.full d.aj=false)(hd:qA c d.data)(hk:d.aS=2)(hs:d.step≠6){b:bJ}(g:b.aj=d.aj)(i:b.aS=d.aS)(m:b.step≠6):
  Jh c b ca (dG d me ca).2 (dG d me ca).1:=by
 have key:∀d':bJ,d'.aj=d.aj->d'.aS=d.aS->d'.data=d.data->Jh c b ca (if d'.next≠-1 then(ca,{ d' with step:=3 }) else((ca.put ⟨-1,-1,d'.aj,0,true,d'.data⟩).1,{ d' with step:=6,aW:=2,head:=me,data:=[] })).2 (if d'.next≠-1 then(ca,{ d' with step:=3 }) else((ca.put ⟨-1,-1,d'.aj,0,true,d'.data⟩).1,{ d' with step:=6,aW:=2,head:=me,data:=[] })).1:=by
  intro d' l1 l2 j;by_cases h:d'.next≠-1
  ·rw [if_pos h];exact⟨I,by rw [g];exact l1,by rw [i];exact l2,.inr (by simp only [j];exact hd),λ_ _=>by simp only [j];exact hd,.inl (za6 _),.inr ⟨O,m,λ_=>.inl ⟨O,rfl⟩⟩⟩
  ·rw [if_neg h];obtain⟨u,q⟩:=OX I.aY (e:=⟨-1,-1,d'.aj,0,true,d'.data⟩) (by simp only [l1];exact h0) (by simp only [l1];exact p);have k:(ca.put ⟨-1,-1,d'.aj,0,true,d'.data⟩).1.find b.aj=some ⟨-1,-1,d'.aj,u,true,d'.data⟩:=by
    rw [g,<-l1];exact q
   exact⟨I.put (by simp only [l1];exact h0) (by simp only [l1];exact o) (by simp only [j];exact hd),by rw [g];exact l1,by rw [i];exact l2,.inl rfl,λ_ h=>by simp at h,.inr ⟨by rw [i,hk];decide,rfl,Jg _ _⟩,.inr ⟨O,m,λ_=>.inr ⟨rfl,_,k,λ_=>rfl⟩⟩⟩
 unfold dG;cases ca.find d.aj with
 |none=>exact key d rfl rfl rfl
 |some own=>
  by_cases h:d.next=me
  ·simp only [if_pos h];exact key { d with next:=own.fwd } rfl rfl rfl
  ·simp only [if_neg h];exact key d rfl rfl rfl
def OY {c:Cfg}{n:Node}{me:Int}(I:Fp c n.aH)(D:agE c n)(hs0:n.aI.step≠0){p:Pkt}(Q:yR c p){ca:Cache}{d:bJ}(h:En n.aI me n.aH p=(ca,d,true)):Jh c n.aI n.aH d ca:=by
 have hf:n.aI.fits p=true:=by
  cases e:n.aI.fits p with
  |true=>rfl
  |false=>rw [BP e] at h;simp [wM] at h
 have hpk:=acv hf;have asL:n.aI.step=1->qA c p.data:=λe=>Q.dat (.inl (by rw [hpk,e];rfl));have asM:n.aI.step=2∨n.aI.step=3->qA c p.data:=λe=>Q.dat (.inr (by rcases e with e|e <;> rw [hpk,e] <;> rfl));have s6:n.aI.step=6->(n.aH,{ n.aI with step:=0 },true)=(ca,d,true)->Jh c n.aI n.aH d ca:=λs e=>by
  simp only [zad,and_true] at e;obtain⟨rfl,rfl⟩:=e;exact⟨I,rfl,rfl,D.dat,λ_ h=>by simp at h,.inl (za6 _),.inl ⟨s,rfl,rfl⟩⟩
 unfold En at h;by_cases k1:n.aI.aS=1
 ·rw [if_pos k1] at h;unfold dY at h;rw [if_neg (show¬(n.aI.aS≠1∨n.aI.fits p=false) by rw [hf];rintro(h|h) <;> first|omega|cases h)] at h;have W:=D.work (by omega);by_cases t1:n.aI.step=1
  ·rw [if_pos t1] at h;have W:=W (by omega);by_cases p0:p.aW≠0
   ·rw [if_pos p0] at h;simp only [zad,and_true] at h;obtain⟨rfl,rfl⟩:=h;exact⟨I,rfl,rfl,.inr (asL t1),λh=>by simp only at h;omega,.inl (za6 _),.inr ⟨by simp,by omega,λ_=>.inl ⟨by simp,rfl⟩⟩⟩
   ·rw [if_neg p0] at h;simp only [zad,and_true] at h;obtain⟨rfl,rfl⟩:=h;obtain⟨u,hu⟩:=OX I.aY (e:=⟨-1,-1,n.aI.aj,0,false,p.data⟩) D.lo W.full;exact⟨I.put D.lo D.hi (asL t1),rfl,rfl,.inl rfl,λ_ h=>by simp at h,.inr ⟨by omega,rfl,Jg _ _⟩,.inr ⟨by simp,by omega,λ_=>.inr ⟨rfl,_,hu,λh=>by omega⟩⟩⟩
  rw [if_neg t1] at h;by_cases t2:n.aI.step=2
  ·rw [if_pos t2] at h;have W:=W (by omega);simp only [zad,and_true] at h;obtain⟨rfl,rfl⟩:=h;obtain⟨u,hu⟩:=OX I.aY (e:=⟨n.aI.head,-1,n.aI.aj,0,false,p.data⟩) D.lo W.full;refine⟨I.put D.lo D.hi (asM (.inl t2)),rfl,rfl,?_,λh=>by simp only at h;omega,.inr ⟨by omega,rfl,Jg _ _⟩,.inr ⟨by simp,by omega,λ_=>.inr ⟨rfl,_,hu,λh=>by omega⟩⟩⟩;simp only;split
   ·exact .inr (asM (.inl t2))
   ·exact .inl rfl
  rw [if_neg t2] at h;by_cases t6:n.aI.step=6
  ·rw [if_pos t6] at h;exact s6 t6 h
  ·rw [if_neg t6] at h;simp [wM] at h
 rw [if_neg k1] at h;by_cases k2:n.aI.aS=2
 ·rw [if_pos k2] at h;unfold dZ at h;rw [if_neg (show¬(n.aI.aS≠2∨n.aI.fits p=false) by rw [hf];rintro(h|h) <;> first|omega|cases h)] at h;have W:=D.work (by omega);by_cases t1:n.aI.step=1
  ·rw [if_pos t1] at h;have W:=W (by omega);simp only [zad,and_true] at h;obtain⟨rfl,rfl⟩:=h;have key:∀dt,qA c dt->Jh c n.aI n.aH (dG { n.aI with aW:=p.aW,head:=p.ptr,told:=p.ptr,data:=dt,next:=p.ptr } me n.aH).2 (dG { n.aI with aW:=p.aW,head:=p.ptr,told:=p.ptr,data:=dt,next:=p.ptr } me n.aH).1:=λdt hdt=>
    Xd (d:={ n.aI with aW:=p.aW,head:=p.ptr,told:=p.ptr,data:=dt,next:=p.ptr }) I D.lo D.hi W.full hdt k2 (show n.aI.step≠6 by omega) rfl rfl (by omega)
   cases hfd:n.aH.find n.aI.aj with
   |none=>exact key _ (asL t1)
   |some e=>exact key _ (I.ent e ((iL I.aY).1 hfd).1).dat
  rw [if_neg t1] at h;by_cases t3:n.aI.step=3
  ·rw [if_pos t3] at h;have W:=W (by omega);simp only [zad,and_true] at h;obtain⟨rfl,rfl⟩:=h;have key:∀dt,qA c dt->Jh c n.aI n.aH (dG { n.aI with data:=dt,next:=p.ptr } me n.aH).2 (dG { n.aI with data:=dt,next:=p.ptr } me n.aH).1:=λdt hdt=>
    Xd (d:={ n.aI with data:=dt,next:=p.ptr }) I D.lo D.hi W.full hdt k2 (show n.aI.step≠6 by omega) rfl rfl (by omega)
   cases hfd:n.aH.find n.aI.aj with
   |none=>exact key _ (asM (.inr t3))
   |some e=>exact key _ (D.aiG k2 t3)
  rw [if_neg t3] at h;by_cases t6:n.aI.step=6
  ·rw [if_pos t6] at h;exact s6 t6 h
  ·rw [if_neg t6] at h;simp [wM] at h
 rw [if_neg k2] at h;have k3:n.aI.aS=3:=by have:=D.aS;omega
 rw [if_pos k3] at h;unfold eG at h;rw [if_neg (show¬(n.aI.aS≠3∨n.aI.fits p=false) by rw [hf];rintro(h|h) <;> first|omega|cases h)] at h;have no3:∀{P:Prop},n.aI.aS≠3->P:=λh=>absurd k3 h;by_cases t1:n.aI.step=1
 ·rw [if_pos t1] at h;cases hfd:n.aH.find n.aI.aj with
  |none=>
   simp only [hfd,zad,and_true] at h;obtain⟨rfl,rfl⟩:=h;exact⟨I,rfl,rfl,.inl rfl,λh=>by simp only at h;omega,.inl (za6 _),.inr ⟨by simp,by omega,no3⟩⟩
  |some e=>
   simp only [hfd] at h;have E:=I.ent e ((iL I.aY).1 hfd).1;by_cases b1:e.back=-1/\e.fwd=-1
   ·simp only [if_pos b1,zad,and_true] at h;obtain⟨rfl,rfl⟩:=h;refine⟨I.drop _,rfl,rfl,?_,λh=>by simp only at h;omega,.inl (by rw [DR];exact za6 _),.inr ⟨by simp,by omega,no3⟩⟩;simp only;split
    ·exact .inr E.dat
    ·exact .inl rfl
   ·simp only [if_neg b1] at h;by_cases b2:e.back=-1
    ·simp only [if_pos b2,zad,and_true] at h;obtain⟨rfl,rfl⟩:=h;exact⟨I,rfl,rfl,.inl rfl,λh=>by simp only at h;omega,.inl (za6 _),.inr ⟨by simp,by omega,no3⟩⟩
    ·simp only [if_neg b2,zad,and_true] at h;obtain⟨rfl,rfl⟩:=h;exact⟨I,rfl,rfl,.inl rfl,λh=>by simp only at h;omega,.inl (za6 _),.inr ⟨by simp,by omega,no3⟩⟩
 rw [if_neg t1] at h;have out:∀hd,gX n.aI n.aH hd=(ca,d,true)->n.aI.step≠6->Jh c n.aI n.aH d ca:=λhd e hs=>by
  simp only [gX,zad,and_true] at e;obtain⟨rfl,rfl⟩:=e;exact⟨I.drop _,rfl,rfl,.inl rfl,λh=>by simp only at h;omega,.inl (by rw [DR];exact za6 _),.inr ⟨by simp,hs,no3⟩⟩
 by_cases t4:n.aI.step=4
 ·rw [if_pos t4] at h;split at h
  ·exact out _ h (by omega)
  ·simp only [zad,and_true] at h;obtain⟨rfl,rfl⟩:=h;exact⟨I,rfl,rfl,D.dat,λh=>by simp only at h;omega,.inl (za6 _),.inr ⟨by simp,by omega,no3⟩⟩
 rw [if_neg t4] at h;by_cases t5:n.aI.step=5
 ·rw [if_pos t5] at h;split at h
  ·exact out _ h (by omega)
  ·exact out _ h (by omega)
 rw [if_neg t5] at h;by_cases t6:n.aI.step=6
 ·rw [if_pos t6] at h;exact s6 t6 h
 ·rw [if_neg t6] at h;simp [wM] at h
structure S9 where
 a:Nat->Nat
 f:Nat
 P:Nat->Nat->Nat
 t:Nat
def ahS(S:S9)(k:Nat)(q:Nat):Prop:=(∃i,i<6/\q=S.a i)∨PI S.P k q∨q=S.t
structure NW(g:bD)(S:S9)(c:Cfg)(me:Int)(w:NFT):Prop where
 bF:uH g S.a c me w.1
 fab:iJ g S.f S.P c w.2.1
 tr:g S.t=some (nN w.2.2)
 SX:Ux S.P w.2.1.l.length
 tf:S.t≠S.f
def jM {g:bD}{x y:Nat}{A B:List Cell}(h:g x=some A)(b:g y=some B)(d:A.length≠B.length):x≠y:=λe=>by
 subst e;rw [h] at b;exact d (by rw [zaX b])
def apo {g:bD}{x y:Nat}{A B:List Cell}(h:g x=some A)(b:g y=some B)(d:A[1]?≠B[1]?):x≠y:=λe=>by
 subst e;rw [h] at b;exact d (by rw [zaX b])
section
variable {b:Nat}{K K':ah}{g g':bD}{ls:Lcl}{S:S9}{c:Cfg}{me:Int}{w:NFT}
def iF {a:Nat->Nat}{d:bJ}{num:Int}:(xP a c me d num).length=22:=by simp [xP,OC,Cfg.av,bJ.av]
def oM {l:List Evn}:(nN l).length=1:=rfl
def kL {P:Nat->Nat->Nat}{n:Nat}:(aeJ P n).length=1:=rfl
def gU {ca:Cache}:(dH ca).length=4:=rfl
def jd {p:Proc}:(rV p).length=3:=rfl
def gV {t:Turns}:(iV t).length=2:=rfl
def jX {l:List Pkt}{r:Int}:(oD l r).length=2:=rfl
def kM {r:Rows}:(EM c r).length=9:=by simp [EM,Cfg.av]
def jy {d t:Nat}:(EN d t c me).length=11:=by simp [EN,Cfg.av]
def NW.acw(N:NW g S c me w):(∀i,i<6->S.a i≠S.t):=λi hi=>by
 obtain⟨b,d,e,h,j,k⟩:=N.bF
 match i,hi with
 |0,_=>exact jM b N.tr (by simp only [iF,oM];decide)
 |1,_=>exact jM d N.tr (by simp only [oM,gU];decide)
 |2,_=>exact jM e N.tr (by simp only [oM,jd];decide)
 |3,_=>exact jM h N.tr (by simp only [oM,jy];decide)
 |4,_=>exact jM j N.tr (by simp only [oM,kM];decide)
 |5,_=>exact jM k N.tr (by simp only [oM,gV];decide)
def NW.asN(N:NW g S c me w):(∀i,i<6->S.a i≠S.f):=λi hi=>by
 obtain⟨b,d,e,j,k,m⟩:=N.bF;have h:=N.fab.1
 match i,hi with
 |0,_=>exact jM b h (by simp only [iF,kL];decide)
 |1,_=>exact jM d h (by simp only [kL,gU];decide)
 |2,_=>exact jM e h (by simp only [kL,jd];decide)
 |3,_=>exact jM j h (by simp only [kL,jy];decide)
 |4,_=>exact jM k h (by simp only [kL,kM];decide)
 |5,_=>exact jM m h (by simp only [kL,gV];decide)
def NW.port {q:Nat}(N:NW g S c me w)(h:PI S.P w.2.1.l.length q):∃l r,g q=some (oD l r):=by
 obtain⟨i,s,hi,hs,rfl⟩:=h;exact⟨_,_,ig (N.fab.port hi) hs⟩
def NW.YA(N:NW g S c me w){q:Nat}(h:PI S.P w.2.1.l.length q):(∀i,i<6->S.a i≠q)/\S.t≠q/\S.f≠q:=by
 obtain⟨l,r,b⟩:=N.port h;obtain⟨d,e,j,k,m,o⟩:=N.bF;refine⟨λi hi=>?_,jM N.tr b (by simp only [oM,jX];decide),jM N.fab.1 b (by simp only [kL,jX];decide)⟩
 match i,hi with
 |0,_=>exact jM d b (by simp only [iF,jX];decide)
 |1,_=>exact jM e b (by simp only [gU,jX];decide)
 |2,_=>exact jM j b (by simp only [jd,jX];decide)
 |3,_=>exact jM k b (by simp only [jX,jy];decide)
 |4,_=>exact jM m b (by simp only [jX,kM];decide)
 |5,_=>exact apo o b (by simp [iV,oD])
def iJ.same {f:Nat}{P:Nat->Nat->Nat}{fab:Fab}(F:iJ g f P c fab)(b:g' f=g f)(d:∀q,PI P fab.l.length q->g' q=g q):iJ g' f P c fab:=
 ⟨by rw [b];exact F.1,λi p hi=>(F.2.1 i p hi).ext λs hs=>d _ ⟨i,s,(zaf.1 hi).1,hs,rfl⟩,F.2.2⟩
def NW.set(N:NW g S c me w){n:Node}(b:uH g' S.a c me n)(h:∀q,(∀i,i<6->q≠S.a i)->g' q=g q):NW g' S c me (n,w.2):=by
 refine⟨b,N.fab.same (h _ λi hi=>(N.asN i hi).symm) (λq d=>h _ λi hi=>((N.YA d).1 i hi).symm),?_,N.SX,N.tf⟩;rw [h _ λi hi=>(N.acw i hi).symm];exact N.tr
def Off.aqb {k:Nat}(h:∀q,(∀i,i<6->q≠S.a i)->g' q=g q):Off (ahS S k) g g':=λq b=>h q λi hi e=>b (.inl ⟨i,hi,e⟩)
def DT {i:Nat}(hi:i<6){cs:List Cell}:∀q,(∀i,i<6->q≠S.a i)->upd g (S.a i) cs q=g q:=λq b=>bn (b i hi)
def NW.aH(N:NW g S c me w)(ca:Cache):NW (upd g (S.a 1) (dH ca)) S c me ({ w.1 with aH:=ca },w.2):=by
 refine N.set ?_ (DT Z);have I:=N.bF;obtain⟨b,o,d,j,k,m⟩:=N.bF;have ne:∀i,i<6->i≠1->S.a i≠S.a 1:=λi hi h e=>h (I.inj hi Z e);exact⟨by rw [bn (ne 0 Z Z)];exact b,aQ,by rw [bn (ne 2 Z Z)];exact d,by rw [bn (ne 3 Z Z)];exact j,by rw [bn (ne 4 Z Z)];exact k,by rw [bn (ne 5 Z Z)];exact m⟩
def NW.bQ(N:NW g S c me w)(p:Proc):NW (upd g (S.a 2) (rV p)) S c me ({ w.1 with bQ:=p },w.2):=by
 refine N.set ?_ (DT Z);have I:=N.bF;obtain⟨b,d,o,j,k,m⟩:=N.bF;have ne:∀i,i<6->i≠2->S.a i≠S.a 2:=λi hi h e=>h (I.inj hi Z e);exact⟨by rw [bn (ne 0 Z Z)];exact b,by rw [bn (ne 1 Z Z)];exact d,aQ,by rw [bn (ne 3 Z Z)];exact j,by rw [bn (ne 4 Z Z)];exact k,by rw [bn (ne 5 Z Z)];exact m⟩
def NW.own(N:NW g S c me w)(d:bJ)(num:Int):NW (upd g (S.a 0) (xP S.a c me d num)) S c me ({ w.1 with aI:=d,num:=num },w.2):=by
 refine N.set ?_ (DT Z);have I:=N.bF;obtain⟨p,b,j,k,m,o⟩:=N.bF;have ne:∀i,i<6->i≠0->S.a i≠S.a 0:=λi hi h e=>h (I.inj hi Z e);exact⟨aQ,by rw [bn (ne 1 Z Z)];exact b,by rw [bn (ne 2 Z Z)];exact j,by rw [bn (ne 3 Z Z)];exact k,by rw [bn (ne 4 Z Z)];exact m,by rw [bn (ne 5 Z Z)];exact o⟩
def NW.home(N:NW g S c me w)(h:Home):NW (lV g (S.a 4) (S.a 5) c h) S c me ({ w.1 with home:=h },w.2):=by
 have I:=N.bF;obtain⟨d,k,m,o⟩:=N.bF;refine N.set ?_ λq b=>?_
 ·have ne:∀i j,i<6->j<6->i≠j->S.a i≠S.a j:=λi j hi p h e=>h (I.inj hi p e);refine⟨?_,?_,?_,o.ajT h⟩
  ·unfold lV;rw [bn (ne 0 5 Z Z Z),bn (ne 0 4 Z Z Z)];exact d
  ·unfold lV;rw [bn (ne 1 5 Z Z Z),bn (ne 1 4 Z Z Z)];exact k
  ·unfold lV;rw [bn (ne 2 5 Z Z Z),bn (ne 2 4 Z Z Z)];exact m
 ·unfold lV;rw [bn (b 5 Z),bn (b 4 Z)]
def NW.trace(N:NW g S c me w)(l:List Evn):NW (upd g S.t (nN l)) S c me (w.1,w.2.1,l):=by
 refine⟨N.bF.ext λs hs=>bn (N.acw s hs),N.fab.same (bn N.tf.symm) (λq b=>bn (N.YA b).2.1.symm),aQ,N.SX,N.tf⟩
def NW.net(N:NW g S c me w){fab:Fab}(F:iJ g' S.f S.P c fab)(b:fab.l.length=w.2.1.l.length)(O:Off (PI S.P w.2.1.l.length) g g'):NW g' S c me (w.1,fab,w.2.2):=by
 have d:∀i,i<6->¬PI S.P w.2.1.l.length (S.a i):=λi hi h=>(N.YA h).1 i hi rfl;refine⟨N.bF.ext λs hs=>O _ (d s hs),F,?_,by rw [b];exact N.SX,N.tf⟩;rw [O _ λh=>(N.YA h).2.1 rfl];exact N.tr
def NW.sub(N:NW g S c me w)(h:sG g g'):NW g' S c me w:=
 ⟨N.bF.ext λs hs=>by obtain⟨l,b⟩:=N.bF.some hs;rw [b,h _ _ b],N.fab.sub h,h _ _ N.tr,N.SX,N.tf⟩
def Loc.sub(L:Loc b K g ls):sG g (lay g ls):=λq cs h=>L.obj h
def Loc.home(L:Loc b K g ls){d t:Nat}{cs cs':List Cell}(m:g d=some cs)(o:g t=some cs'){h:Home}(G:Good b K' (lV (lay g ls) d t c h)):Loc b K' (lV g d t c h) ls:=by
 have j:=(L.at_ m).2;have k:=(L.at_ o).2;unfold lV at G ⊢;refine⟨by rw [OV k,OV j];exact G,λr i=>?_⟩;rw [bn (λe=>by subst e;exact i k),bn (λe=>by subst e;exact i j)];exact L.free r i
def Loc.net(L:Loc b K g ls){T:Nat->Prop}(j:∀q,T q->g q≠none){i:bD}(G:Good b K' i)(O:Off T (lay g ls) i):∃g',Loc b K' g' ls/\Off T g g'/\∀q,ls q=none->g' q=i q:=by
 let g':bD:=λq=>match ls q with
  |some _=>none
  |none=>i q
 have d:∀q,ls q=none->g' q=i q:=λq h=>by simp only [g',h]
 have e:lay g' ls=i:=by
  funext q
  cases h:ls q with
  |none=>simp only [lay,h];exact d q h
  |some xs=>
   have:¬T q:=λk=>j q k (L.free q (by rw [h];simp));rw [O q this];simp only [lay,h]
 refine⟨g',⟨by rw [e];exact G,λr m=>?_⟩,λq o=>?_,d⟩
 ·simp only [g'];cases h:ls r with
  |none=>exact absurd h m
  |some xs=>rfl
 ·cases h:ls q with
  |none=>rw [d q h,O q o];simp only [lay,h]
  |some xs=>
   simp only [g',h];rw [L.free q (by rw [h];simp)]
end
def NW.agree {g g':bD}{S:S9}{c:Cfg}{me:Int}{w:NFT}(N:NW g S c me w)(h:∀q,ahS S w.2.1.l.length q∨q=S.f->g' q=g q):NW g' S c me w:=
 ⟨N.bF.ext λs b=>h _ (.inl (.inl ⟨s,b,rfl⟩)),N.fab.same (h _ (.inr rfl)) λq d=>h _ (.inl (.inr (.inl d))),by rw [h _ (.inl (.inr (.inr rfl)))];exact N.tr,N.SX,N.tf⟩
def NW.here {g:bD}{S:S9}{c:Cfg}{me:Int}{w:NFT}(N:NW g S c me w){q:Nat}(h:ahS S w.2.1.l.length q):g q≠none:=by
 rcases h with⟨i,hi,rfl⟩|d|rfl
 ·obtain⟨l,b⟩:=N.bF.some hi;rw [b];simp
 ·obtain⟨l,r,b⟩:=N.port d;rw [b];simp
 ·rw [N.tr];simp
def atv(b:Nat)(H:ah)(g:bD)(S:S9)(c:Cfg)(me:Int)(k:Nat)(H':ah)(w':NFT):Prop:=
 ∃g',Good b H' g'/\NW g' S c me w'/\Off (ahS S k) g g'/\Step b H H'/\w'.2.1.l.length=k
structure Walk(b:Nat)(H:ah)(g0:bD)(S:S9)(c:Cfg)(me:Int)(k:Nat)(K:ah)(g:bD)(ls:Lcl)(w:NFT):Prop where
 hb:H.base<=b
 loc:Loc b K g ls
 nw:NW g S c me w
 off:Off (ahS S k) g0 g
 step:Step b H K
 len:w.2.1.l.length=k
section
variable {b:Nat}{H:ah}{g0:bD}{S:S9}{c:Cfg}{me:Int}{k:Nat}{K K':ah}{g:bD}{ls:Lcl}{w w':NFT}
def Walk.of {g:bD}(G:Good b H g)(hb:H.base<=b)(N:NW g S c me w):Walk b H g S c me w.2.1.l.length H g noL w:=⟨hb,Loc.of G,N,Off.refl _ _,Step.refl _ _,rfl⟩
def Walk.base(W:Walk b H g0 S c me k K g ls w):K.base<=b:=by rw [W.step.base];exact W.hb
def Walk.res(W:Walk b H g0 S c me k K g ls w):atv b H g0 S c me k K w:=⟨g,W.loc.out,W.nw,W.off,W.step,W.len⟩
def Walk.newL(W:Walk b H g0 S c me k K g ls w){ty:TypeId}{xs:List AV}{r:Nat}(hc:xs.all AV.aP=true)(hr:r=K.next)(ht:ty<iw:=by decide):Walk b H g0 S c me k (K.new (.blk 0 ty xs)) g (iR ls r xs) w:=
 ⟨W.hb,W.loc.newL hc hr ht,W.nw,W.off,W.step.trans (Step.new _ W.loc.good.1),W.len⟩
def Walk.whole(W:Walk b H g0 S c me k K g ls w){r n:Nat}{xs vs:List AV}(h:ls r=some xs)(d:xs.length=n)(e:vs.length=n)(i:0<n)(hv:vs.all AV.aP=true):
  ∃K',Proofs.YtljogojaihgdlaaGreat.st n (.ref r 0 0) (.agg vs) K=some (bg,K')/\Proofs.YtljogojaihgdlaaGreat.lda n (.ref r 0 0) K'=some (.agg vs,K')/\Walk b H g0 S c me k K' g (iR ls r vs) w:=by
 obtain⟨K',j,m,o,p⟩:=W.loc.whole W.base h d e i hv;exact⟨K',j,m,W.hb,o,W.nw,W.off,W.step.trans p,W.len⟩
def Walk.same(W:Walk b H g0 S c me k K g ls w)(G:Good b K' (lay g ls))(s:Step b K K'):Walk b H g0 S c me k K' g ls w:=⟨W.hb,⟨G,W.loc.free⟩,W.nw,W.off,W.step.trans s,W.len⟩
def Walk.aH(W:Walk b H g0 S c me k K g ls w){ca:Cache}(G:Good b K' (upd (lay g ls) (S.a 1) (dH ca)))(s:Step b K K'):Walk b H g0 S c me k K' (upd g (S.a 1) (dH ca)) ls ({ w.1 with aH:=ca },w.2):=
 ⟨W.hb,W.loc.call W.nw.bF.2.1 G,W.nw.aH ca,W.off.trans (Off.aqb (DT Z)),W.step.trans s,W.len⟩
def Walk.bQ(W:Walk b H g0 S c me k K g ls w){p:Proc}(G:Good b K' (upd (lay g ls) (S.a 2) (rV p)))(s:Step b K K'):Walk b H g0 S c me k K' (upd g (S.a 2) (rV p)) ls ({ w.1 with bQ:=p },w.2):=
 ⟨W.hb,W.loc.call W.nw.bF.2.2.1 G,W.nw.bQ p,W.off.trans (Off.aqb (DT Z)),W.step.trans s,W.len⟩
def Walk.own(W:Walk b H g0 S c me k K g ls w){d:bJ}{num:Int}(G:Good b K' (upd (lay g ls) (S.a 0) (xP S.a c me d num)))(s:Step b K K'):Walk b H g0 S c me k K' (upd g (S.a 0) (xP S.a c me d num)) ls ({ w.1 with aI:=d,num:=num },w.2):=
 ⟨W.hb,W.loc.call W.nw.bF.1 G,W.nw.own d num,W.off.trans (Off.aqb (DT Z)),W.step.trans s,W.len⟩
def Walk.home(W:Walk b H g0 S c me k K g ls w){h:Home}(G:Good b K' (lV (lay g ls) (S.a 4) (S.a 5) c h))(s:Step b K K'):Walk b H g0 S c me k K' (lV g (S.a 4) (S.a 5) c h) ls ({ w.1 with home:=h },w.2):=by
 obtain⟨j,e,i⟩:=W.nw.bF.2.2.2;refine⟨W.hb,W.loc.home e i G,W.nw.home h,W.off.trans (Off.aqb λq d=>?_),W.step.trans s,W.len⟩;unfold lV;rw [bn (d 5 Z),bn (d 4 Z)]
def Walk.trace(W:Walk b H g0 S c me k K g ls w){l:List Evn}(G:Good b K' (upd (lay g ls) S.t (nN l)))(s:Step b K K'):Walk b H g0 S c me k K' (upd g S.t (nN l)) ls (w.1,w.2.1,l):=
 ⟨W.hb,W.loc.call W.nw.tr G,W.nw.trace l,W.off.trans (Off.upd (.inr (.inr rfl))),W.step.trans s,W.len⟩
def Walk.RP(W:Walk b H g0 S c me k K g ls w):NW (lay g ls) S c me w:=W.nw.sub W.loc.sub
def Walk.net(W:Walk b H g0 S c me k K g ls w){i:bD}{fab:Fab}(G:Good b K' i)(F:iJ i S.f S.P c fab)(j:fab.l.length=w.2.1.l.length)(O:Off (PI S.P w.2.1.l.length) (lay g ls) i)(s:Step b K K'):∃g',Walk b H g0 S c me k K' g' ls (w.1,fab,w.2.2):=by
 obtain⟨g',L,m,h⟩:=W.loc.net (T:=PI S.P w.2.1.l.length) (λq d=>by obtain⟨l,r,e⟩:=W.nw.port d;rw [e];simp) G O;have o:∀{q cs},g q=some cs->ls q=none:=λe=>(W.loc.at_ e).2;have p:iJ g' S.f S.P c fab:=F.same (h _ (o W.nw.fab.1)) λq d=>by
  rw [j] at d;obtain⟨l,r,e⟩:=W.nw.port d;exact h _ (o e)
 refine⟨g',W.hb,L,W.nw.net p j m,W.off.trans (m.mono λq d=>.inr (.inl (by rw [<-W.len];exact d))),W.step.trans s,by rw [<-W.len];exact j⟩
def Walk.app(W:Walk b H g0 S c me k K g ls w)(h:atv b K (lay g ls) S c me k K' w'):∃g',Walk b H g0 S c me k K' g' ls w':=by
 obtain⟨o,G,N,O,s,i⟩:=h;obtain⟨g',L,j,h⟩:=W.loc.net (T:=ahS S k) (λq d=>W.nw.here (by rw [W.len];exact d)) G O;have m:∀q,g q≠none->ls q=none:=λq d=>by
  cases e:ls q with
  |none=>rfl
  |some xs=>exact absurd (W.loc.free q (by rw [e];simp)) d
 refine⟨g',W.hb,L,N.agree λq d=>h q (m q ?_),W.off.trans j,W.step.trans s,i⟩;rcases d with d|rfl
 ·exact W.nw.here (by rw [W.len,<-i];exact d)
 ·rw [W.nw.fab.1];simp
end
section
variable {b:Nat}{H:ah}{g0:bD}{S:S9}{c:Cfg}{me:Int}{k:Nat}{K K':ah}{g:bD}{ls:Lcl}{w w':NFT}
structure PSz(p:Proc):Prop where
 ops:p.ops.length<1000
 vals:p.bH.length<=p.ops.length
def Walk.ldN(W:Walk b H g0 S c me k K g ls w){i:Nat}{v:AV}(hi:(OC S.a c me w.1.aI w.1.num)[i]?=some v):ld (.ref (S.a 0) 0 i) K=some (v,K):=
 W.loc.good.load (W.loc.obj W.nw.bF.1) (i:=i) (x:=v) (by rw [xP,zaH,hi];rfl)
def Walk.apq(W:Walk b H g0 S c me k K g ls w){i n:Nat}{ys:List AV}(hi:((OC S.a c me w.1.aI w.1.num).drop i).take n=ys)(d:ys.length=n)(e:0<n):lda n (.ref (S.a 0) 0 i) K=some (.agg ys,K):=
 W.loc.good.loads (W.loc.obj W.nw.bF.1) (i:=i) (n:=n) (xs:=ys) (by rw [xP,<-hi,zcI,zdL]) d e
def Walk.cur(W:Walk b H g0 S c me k K g ls w)(d:PSz w.1.bQ):∃K',cl 74 [.ref (S.a 2) 0 0] K=some (.tup [.agg w.1.bQ.op.av,I w.1.bQ.idx,B w.1.bQ.cur.isSome],K')/\Walk b H g0 S c me k K' g ls w:=by
 obtain⟨K',e,h,i⟩:=aj3 W.loc.good W.base (W.loc.obj W.nw.bF.2.2.1) d.ops (by have:=d.vals;have:=d.ops;omega) d.vals;exact⟨K',e,W.same h i⟩
def Walk.pend(W:Walk b H g0 S c me k K g ls w)(d:PSz w.1.bQ)(v:Int):∃r K' g',cl 117 [.ref (S.a 2) 0 0,I v] K=some (r,K')/\Walk b H g0 S c me k K' g' ls ({ w.1 with bQ:=w.1.bQ.C9 v },w.2):=by
 obtain⟨r,K',e,h,i⟩:=aj2 W.loc.good W.base (W.loc.obj W.nw.bF.2.2.1) (by have:=d.vals;have:=d.ops;omega) v;exact⟨r,K',_,e,W.bQ h i⟩
def Walk.tend(W:Walk b H g0 S c me k K g ls w)(d:w.2.2.length<1000000)(n i v:Int):∃K' g',cl 118 [.ref S.t 0 0,I n,I i,I v] K=some (.tup [],K')/\Walk b H g0 S c me k K' g' ls (w.1,w.2.1,w.2.2++[⟨n,i,true,v⟩]):=by
 obtain⟨K',e,h,j⟩:=afc W.loc.good W.base (W.loc.obj W.nw.tr) d n i v;exact⟨K',_,e,W.trace h j⟩
def Walk.apr(W:Walk b H g0 S c me k K g ls w)(d:w.2.2.length<1000000)(n i:Int):∃K' g',cl 85 [.ref S.t 0 0,I n,I i] K=some (.tup [],K')/\Walk b H g0 S c me k K' g' ls (w.1,w.2.1,w.2.2++[⟨n,i,false,0⟩]):=by
 obtain⟨K',e,h,j⟩:=Yx W.loc.good W.base (W.loc.obj W.nw.tr) d n i;exact⟨K',_,e,W.trace h j⟩
def Walk.auu(W:Walk b H g0 S c me k K g ls w)(C:COk w.1.aH)(e:Ent){x:AV}(d:e.data.length<1000000000)(h:mJ K x e.data):∃K' g',cl 121 [.ref (S.a 1) 0 0,.agg (e.avx x)] K=some (I (w.1.aH.put e).2,K')/\Walk b H g0 S c me k K' g' ls ({ w.1 with aH:=(w.1.aH.put e).1 },w.2):=by
 obtain⟨K',i,j,m⟩:=WU W.loc.good W.base (W.loc.obj W.nw.bF.2.1) C.len C.sets C.clk e d h;exact⟨K',_,i,W.aH j m⟩
def Walk.find(W:Walk b H g0 S c me k K g ls w)(C:COk w.1.aH)(aj:Int):cl 87 [.ref (S.a 1) 0 0,I aj] K=some (qh (w.1.aH.find aj),K):=
 rH W.loc.good (W.loc.obj W.nw.bF.2.1) C.len C.dat aj
def Walk.send(W:Walk b H g0 S c me k K g ls w)(F:FOk c w.2.1)(p:Pkt)(e:p.data.length<1000000000):∃K' g',cl 81 [.ref S.f 0 0,.agg p.av] K=some (I (w.2.1.send p).2,K')/\Walk b H g0 S c me k K' g' ls (w.1,(w.2.1.send p).1,w.2.2):=by
 obtain⟨K',u,h,i,j,m,o⟩:=ajV W.loc.good W.base W.RP.fab W.nw.SX F p e;have d:(w.2.1.send p).1.l.length=w.2.1.l.length:=by
  unfold Fab.send;split
  ·rfl
  ·split
   ·rfl
   ·simp [Fab.put]
 obtain⟨g',q⟩:=W.net i j d m o;exact⟨K',g',h,q⟩
def acy(W:Walk b H g0 S c me k K g ls w)(d:PSz w.1.bQ)(o:w.2.2.length<1000000)(v:Int):
  ∃K' g',cl 75 [.ref (S.a 0) 0 0,.ref S.t 0 0,I v] K=some (.tup [],K')/\Walk b H g0 S c me k K' g' ls ((w.1.done me w.2.2 v).1,w.2.1,(w.1.done me w.2.2 v).2):=by
 have G:=W.loc.good;have e:=Walk.of G W.base W.RP;have l1:=e.ldN (i:=1) (v:=.ref (S.a 2) 0 0) rfl;obtain⟨p,q,u⟩:=e.cur d;have y:=u.newL (ty:=53) (xs:=[zI,zI,zI]) (r:=p.next) rfl rfl;obtain⟨M,z,Q,h⟩:=y.whole ak (n:=3) (vs:=w.1.bQ.op.av) rfl (eP _) (by decide) (pq _);have A:=h.ldN (i:=1) (v:=.ref (S.a 2) 0 0) rfl;obtain⟨r,R,T,C,j⟩:=h.pend d v;have D:=j.ldN (i:=10) (v:=I me) rfl;obtain⟨m,X,E,F⟩:=j.tend o me w.1.bQ.idx v;obtain⟨g',L⟩:=W.app (K':=m) (w':=((w.1.done me w.2.2 v).1,w.2.1,(w.1.done me w.2.2 v).2)) (by
  have:=F.res;rw [W.len] at this;exact this)
 refine⟨m,g',bC rfl rfl (arP _ _ _ _ _ ?_),L⟩;simp only [xq_,amP,l1,q,z,A,C,D,E]
def UQ(W:Walk b H g0 S c me k K g ls w)(hc:c.ok=true)(F:FOk c w.2.1)(hd:w.1.aI.data.length<1000000000):
  ∃K' g',cl 77 [.ref (S.a 0) 0 0,.ref S.f 0 0] K=some (.tup [],K')/\Walk b H g0 S c me k K' g' ls (w.1,w.1.ad2 c me w.2.1,w.2.2):=by
 have G:=W.loc.good;have d:=Walk.of G W.base W.RP;have l1:=d.apq (i:=12) (n:=9) (ys:=w.1.aI.av) rfl rfl Z;have l2:=d.ldN (i:=10) (v:=I me) rfl;have j:=d.apq (i:=2) (n:=8) (ys:=c.av) rfl rfl Z;have m:=d.ldN (i:=13) (v:=I w.1.aI.aj) rfl;have o:=IQ K.guard c hc w.1.aI.aj;have p:=apl K w.1.aI me (c.bf w.1.aI.aj) hd;have e:(w.1.aI.ask me (c.bf w.1.aI.aj)).data.length<1000000000:=by
  unfold bJ.ask
  repeat' split
  all_goals first|exact hd|exact(show(0:Nat)<1000000000 by decide)
 obtain⟨h,z,q,u⟩:=d.send F (w.1.aI.ask me (c.bf w.1.aI.aj)) e;obtain⟨g',y⟩:=W.app (K':=h) (w':=(w.1,w.1.ad2 c me w.2.1,w.2.2)) (by
  have:=u.res;rw [W.len] at this;exact this)
 refine⟨h,g',bC rfl rfl (arS _ _ _ _ ?_),y⟩;simp only [Nat.reduceAdd,xq_,amQ,l1,l2,j,m,o,p,q]
end
def aj6 {n:Nat}{x v r:AV}{H H':ah}(h:st n x v H=some (r,H')):H'.next=H.next:=by
 unfold st at h;split at h
 ·split at h
  ·split at h
   ·cases h;rfl
   ·cases h
  ·cases h
 ·cases h
def is0(H:ah)(e:Ent)(w:Int):cl0 161 [.agg e.av,I w] H=some (B (decide (0<=w/\w<e.data.length)),H.new (.blk 0 166 e.av)):=by
 refine iU (ahs _ _ _ _ ?_);have d:=λH=>(kZ H e.data).lnS;by_cases b:0<=w
 ·simp only [Nat.reduceLT,xq_,hq_,QU,aG,Ent.av,b,d]
 ·simp only [Nat.reduceLT,xq_,hq_,QU,aG,Ent.av,b,false_and]
def aps(H:ah)(l:List Int)(h:l≠[])(hl:l.length<1000000000):cl0 55 [dat l] H=some (.sl (H.next+1) 0 0 1 l.length l.length false,(H.new (.blk 0 3 [])).new (.blk 0 (3+iw) (l.map I))):=by
 have h0:l.length≠0:=λe=>h (zat e);have e2:=uw (e:=3) (by_:=8) (r:=H.next) (H:=H.new (.blk 0 3 [])) ru (kZ _ l) (yD l) h0 (by unfold most;omega) (by unfold most;omega);simp only [fB] at e2;have e1:bi .eql 22 (dat l) zN=some (B false):=by rw [xM h];exact uy Tryz.underlying22
 refine iU (aei _ _ _ ?_);simp only [xq_,aaF,e1,Qy,zL,e2,zbv,zaW]
section
variable {b:Nat}{H:ah}{g0:bD}{S:S9}{c:Cfg}{me:Int}{k:Nat}{K K':ah}{g:bD}{ls:Lcl}{w w':NFT}
def Walk.new(W:Walk b H g0 S c me k K g ls w)(o:gG):Walk b H g0 S c me k (K.new o) g ls w:=⟨W.hb,W.loc.new o,W.nw,W.off,W.step.trans (Step.new _ W.loc.good.1),W.len⟩
def OZ {args:List AV}{r:AV × ah}(h:cl0 120 args K=some r):cl 120 args K=some r:=G8 (p:=cl0 120) rfl h
def Walk.write(W:Walk b H g0 S c me k K g ls w){r:Nat}{e:Ent}(h:ls r=some e.av)(he:e.data.length<1000000000)(i v:Int):
  ∃res K' x,cl 120 [.ref r 0 0,I i,I v] K=some (res,K')/\mJ K' x (e.write i v).data/\Walk b H g0 S c me k K' g (iR ls r ((e.write i v).avx x)) w:=by
 have same:iR ls r e.av=ls:=by
  funext x;simp only [iR];split
  ·rename_i hx;rw [hx,h]
  ·rfl
 have hr:r<K.next:=W.loc.good.lt (qK h)
 have l4:=W.loc.ld h (i:=4) (v:=B e.dn) rfl;cases hd:e.dn with
 |false=>
  have hm:e.write i v=e:=by unfold Ent.write;rw [if_neg (by simp [hd])]
  rw [hm];rw [hd] at l4;refine⟨B false,K,dat e.data,OZ (iU (aaW _ _ _ _ _ ?_)),qN _ _,by
   have:e.avx (dat e.data)=e.av:=rfl;rw [this,same];exact W⟩
  simp only [xq_,VY,l4,zal]
 |true=>
  rw [hd] at l4;have la:=W.loc.lda h (i:=0) (n:=6) (ys:=e.av) rfl rfl (by decide);have e1:=is0 K e i;have W1:=W.new (.blk 0 166 e.av);by_cases hi:0<=i/\i<e.data.length
  ·have hm:e.write i v={ e with data:=e.data.set i.toNat v }:=by unfold Ent.write;rw [if_pos ⟨hd,hi⟩]
   have hne:e.data≠[]:=λh0=>by rw [h0] at hi;simp at hi;omega
   have e2:=aps (K.new (.blk 0 166 e.av)) e.data hne he;simp only [fB] at e2;have l5:=W1.loc.ld h (i:=5) (v:=dat e.data) rfl;let y:AV:=.sl (K.next+1+1) 0 0 1 e.data.length e.data.length false;obtain⟨K3,u1,L3,s3⟩:=W.loc.st W.base h (i:=5) (v:=y) (by simp [Ent.av]) uq;have nx:=aj6 u1;let o1:gG:=.blk 0 166 e.av;let o2:gG:=.blk 0 3 [];let o3:gG:=.blk 0 (3+iw) (e.data.map I);have u2:st 1 (.ref r 0 5) y (((K.new o1).new o2).new o3)=some (bg,((K3.new o1).new o2).new o3):=by
    rw [QD (by rw [fB,fB];omega),QD (by rw [fB];omega),QD hr,u1];rfl
   have L4:=((L3.new o1).new o2).new o3;have l5':=L4.ld ak (i:=5) (v:=y) (by simp [Ent.av]);have hn2:((K3.new o1).new o2).next=K.next+1+1:=by rw [fB,fB,nx]
   have hs:aN (((K3.new o1).new o2).new o3) y 1 e.data.length (e.data.map I):=by
    have:=kQ (e:=3+iw) (m:=1) (n:=e.data.length) (l:=e.data.map I) (H:=(K3.new o1).new o2) (ex:=false) (by simp);rw [hn2] at this;exact this
   have ex:=hs.ix (k:=.i64) (i:=i) hi.1 hi.2;have ep:fA y i.toNat=.ref (K.next+1+1) 0 i.toNat:=by simp [y,fA]
   rw [ep] at ex;have u3:st 1 (.ref (K.next+1+1) 0 i.toNat) (I v) (((K3.new o1).new o2).new o3)=some (bg,((K3.new o1).new o2).new (.blk 0 (3+iw) ((e.data.set i.toNat v).map I))):=by
    rw [QC hn2.symm];have hbK:((K3.new o1).new o2).base<=K.next+1+1:=by
     rw [jD,jD,s3.base];have:=W.base;have:=W.loc.good.1;omega
    have hset:aO (e.data.map I) i.toNat (I v).cells=(e.data.set i.toNat v).map I:=by
     rw [show(I v).cells=[I v] from rfl];have hlt:i.toNat<(e.data.map I).length:=by simp;omega
     unfold aO;rw [List.map_set,zdl,if_pos hlt];simp
    rw [hset,if_pos ⟨hbK,rfl,rfl,by rw [show(I v).cells=[I v] from rfl];simp only [zaE,zam,zao];omega⟩]
   refine⟨B true,((K3.new o1).new o2).new (.blk 0 (3+iw) ((e.data.set i.toNat v).map I)),y,OZ (iU (aaW _ _ _ _ _ ?_)),?_,?_⟩;rotate_left
   ·rw [hm];have:=kQ (e:=3+iw) (m:=1) (n:=(e.data.set i.toNat v).length) (l:=(e.data.set i.toNat v).map I) (H:=(K3.new o1).new o2) (ex:=false) (by simp);rw [hn2] at this;rw [zcf] at this;refine⟨?_,uq,λh0=>?_⟩
    ·simp only [zcf];exact this
    ·have:=congrArg List.length h0;simp at this;exact absurd this hne
   ·rw [hm];have L5:=((L3.new o1).new o2).new (.blk 0 (3+iw) ((e.data.set i.toNat v).map I));have hx:(e.av.set 5 y)=({ e with data:=e.data.set i.toNat v }:Ent).avx y:=rfl;rw [hx] at L5;exact⟨W.hb,L5,W.nw,W.off,((((W.step.trans s3).trans (Step.new _ L3.good.1)).trans (Step.new _ (L3.new o1).good.1)).trans (Step.new _ ((L3.new o1).new o2).good.1)),W.len⟩
   ·simp only [o1,o2,o3,y] at u2 l5' ex u3;rw [decide_eq_true hi] at e1;simp only [xq_,VY,l4,la,e1,zae,l5,e2,u2,l5',ex,u3];rfl
  ·have hm:e.write i v=e:=by unfold Ent.write;rw [if_neg (λh=>hi h.2)]
   rw [hm];refine⟨B false,_,dat e.data,OZ (iU (aaW _ _ _ _ _ ?_)),qN _ _,by
    have:e.avx (dat e.data)=e.av:=rfl;rw [this,same];exact W1⟩
   rw [decide_eq_false hi] at e1;simp only [xq_,VY,l4,la,e1,zae,zal]
end
section
variable {b:Nat}{H:ah}{g0:bD}{S:S9}{c:Cfg}{me:Int}{k:Nat}{K K':ah}{g:bD}{ls:Lcl}{w w':NFT}
def aj7(W:Walk b H g0 S c me k K g ls w)(y:PSz w.1.bQ)(C:COk w.1.aH)(z:w.2.2.length<1000000){r4 p:Nat}{o:Opn}{e:Ent}{x:AV}(A:ls r4=some o.av)(D:ls p=some (e.avx x))(E:e.data.length<1000000000)(F:mJ K x e.data)(d:Int):
  ∃K' g',zX cl (.ref (S.a 0) 0 0) (.ref S.t 0 0) (.ref r4 0 0) (.ref p 0 0) (I d) K=some (.tup [],K')/\
   Walk b H g0 S c me k K' g' ls ((({ w.1 with aH:=(w.1.aH.put e).1 }:Node).done me w.2.2 (if o.aS=2 then 0 else d)).1,w.2.1,(({ w.1 with aH:=(w.1.aH.put e).1 }:Node).done me w.2.2 (if o.aS=2 then 0 else d)).2):=by
 have l1:=W.ldN (i:=0) (v:=.ref (S.a 1) 0 0) rfl;have l2:=W.loc.lda D (i:=0) (n:=6) (ys:=e.avx x) rfl rfl Z;obtain⟨Q,R,q,u⟩:=W.auu C e E F;have m:=u.loc.ld A (i:=0) (v:=I o.aS) rfl;obtain⟨G,L,h,M⟩:=acy u y z (if o.aS=2 then 0 else d);refine⟨G,L,?_,M⟩;by_cases j:o.aS=2
 ·rw [j] at m;rw [if_pos j] at h;simp only [xq_,zX,Oh,l1,l2,q,m,h]
 ·rw [if_neg j] at h;simp only [xq_,zX,Oh,l1,l2,q,m,j,h]
def RQ(W:Walk b H g0 S c me k K g ls w)(hc:c.ok=true)(hp:PSz w.1.bQ)(C:COk w.1.aH)(hl:w.2.2.length<1000000):
  ∃K' g',cl 76 [.ref (S.a 0) 0 0,.ref S.t 0 0] K=some (.tup [],K')/\Walk b H g0 S c me k K' g' ls ((w.1.effect c me w.2.2).1,w.2.1,(w.1.effect c me w.2.2).2):=by
 have W0:=Walk.of W.loc.good W.base W.RP;obtain⟨o,ho⟩:∃o,w.1.bQ.op=o:=⟨_,rfl⟩
 obtain⟨wi,hwi⟩:∃wi,c.dI o.addr=wi:=⟨_,rfl⟩
 obtain⟨e,hee⟩:∃e,(w.1.aH.find (c.bV o.addr)).getD .zero=e:=⟨_,rfl⟩
 have hed:e.data.length<1000000000:=by
  rw [<-hee];cases hf:w.1.aH.find (c.bV o.addr) with
  |none=>exact(show(0:Nat)<1000000000 by decide)
  |some e'=>exact C.dat e' (zba hf)
 have l1:=W0.ldN (i:=1) (v:=.ref (S.a 2) 0 0) rfl;obtain⟨K1,a1,W1⟩:=W0.cur hp;have W2:=W1.newL (ty:=53) (xs:=[zI,zI,zI]) (r:=K1.next) rfl rfl;obtain⟨K3,b1,b2,W3⟩:=W2.whole ak (n:=3) (vs:=o.av) rfl (eP _) (by decide) (pq _);have lc:=W3.apq (i:=2) (n:=8) (ys:=c.av) rfl rfl (by decide);have k3:iR (iR noL K1.next [zI,zI,zI]) K1.next o.av K1.next=some o.av:=ak
 have la:=W3.loc.ld k3 (i:=1) (v:=I o.addr) rfl;have el:=IU K3 c hc o.addr;rw [hwi] at el;have l0:=W3.ldN (i:=0) (v:=.ref (S.a 1) 0 0) rfl;have ef:=W3.find C (c.bV o.addr);simp only [qh] at ef;rw [hee] at ef;have n3:K1.next<K3.next:=W3.loc.good.lt (qK (g:=lay g ls) k3)
 have W4:=W3.newL (ty:=166) (xs:=[zI,zI,zI,zI,zB,zN]) (r:=K3.next) rfl rfl;obtain⟨K5,c1,c2,W5⟩:=W4.whole ak (n:=6) (vs:=e.av) rfl rfl (by decide) (lU e);have ew:=ajG K5 e wi;have k9:iR (iR (iR (iR noL K1.next [zI,zI,zI]) K1.next o.av) K3.next [zI,zI,zI,zI,zB,zN]) K3.next e.av K3.next=some e.av:=ak
 have k4:iR (iR (iR (iR noL K1.next [zI,zI,zI]) K1.next o.av) K3.next [zI,zI,zI,zI,zB,zN]) K3.next e.av K1.next=some o.av:=by rw [aB (by omega),aB (by omega)];exact k3
 have lk:=W5.loc.ld k4 (i:=0) (v:=I o.aS) rfl;have lv:=W5.loc.ld k4 (i:=2) (v:=I o.value) rfl;have hm:w.1.effect c me w.2.2=({ w.1 with aH:=(w.1.aH.put (eU e o wi)).1 }:Node).done me w.2.2 (if o.aS=2 then 0 else e.word wi):=by
  simp only [Node.effect,ho,hee,hwi]
 rw [ho] at a1
 -- a word is written,or none
 have key:∀{K6:ah} {ls6:Lcl} {x:AV},Walk b K (lay g ls) S c me w.2.1.l.length K6 (lay g ls) ls6 w->ls6 K1.next=some o.av->ls6 K3.next=some ((eU e o wi).avx x)->mJ K6 x (eU e o wi).data->
   ∃K' g',zX cl (.ref (S.a 0) 0 0) (.ref S.t 0 0) (.ref K1.next 0 0) (.ref K3.next 0 0) (I (e.word wi)) K6=some (.tup [],K')/\Walk b H g0 S c me k K' g' ls ((w.1.effect c me w.2.2).1,w.2.1,(w.1.effect c me w.2.2).2):=by
  intro K6 ls6 x W6 h4 h9 hx;obtain⟨K7,g7,r1,W7⟩:=aj7 W6 hp C hl h4 h9 (by rw [(rM e o wi).2.2.2];exact hed) hx (e.word wi);rw [<-hm] at W7;obtain⟨g',W'⟩:=W.app (K':=K7) (w':=((w.1.effect c me w.2.2).1,w.2.1,(w.1.effect c me w.2.2).2)) (by
   have:=W7.res;rw [W.len] at this;exact this)
  exact⟨K7,g',r1,W'⟩
 by_cases h2:o.aS=2
 ·obtain⟨res,K6,x,d1,hx,W6⟩:=W5.write k9 hed wi o.value;have he:eU e o wi=e.write wi o.value:=by unfold eU;rw [if_pos h2]
  obtain⟨K7,g',r1,W'⟩:=key W6 (by rw [aB (by omega)];exact k4) (by rw [ak,he]) (by rw [he];exact hx);refine⟨K7,g',bC rfl rfl (ai7 _ _ _ _ ?_),W'⟩;rw [h2] at lk;simp only [Int.reduceEq,xq_,aen,l1,a1,b1,lc,la,el,l0,ef,c1,c2,ew,lk,lv,d1,r1]
 ·by_cases h3:o.aS=3
  ·obtain⟨res,K6,x,d1,hx,W6⟩:=W5.write k9 hed wi (w64 (e.word wi+o.value));have he:eU e o wi=e.write wi (w64 (e.word wi+o.value)):=by unfold eU;rw [if_neg h2,if_pos h3]
   obtain⟨K7,g',r1,W'⟩:=key W6 (by rw [aB (by omega)];exact k4) (by rw [ak,he]) (by rw [he];exact hx);refine⟨K7,g',bC rfl rfl (ai7 _ _ _ _ ?_),W'⟩;rw [h3] at lk;simp only [w64] at d1;simp only [Int.reduceEq,xq_,aen,l1,a1,b1,lc,la,el,l0,ef,c1,c2,ew,lk,lv,bU,d1,r1]
  ·have he:eU e o wi=e:=by unfold eU;rw [if_neg h2,if_neg h3]
   obtain⟨K7,g',r1,W'⟩:=key (x:=dat e.data) W5 k4 (by rw [he];exact k9) (by rw [he];exact qN _ _);refine⟨K7,g',bC rfl rfl (ai7 _ _ _ _ ?_),W'⟩;simp only [xq_,aen,l1,a1,b1,lc,la,el,l0,ef,c1,c2,ew,lk,h2,h3,r1]
def aff(W:Walk b H g0 S c me k K g ls w)(C:COk w.1.aH)(hd:w.1.aI.data.length<1000000000)(p:Pkt)(hpl:p.data.length<1000000000):
  ∃K' g',cl 73 [.ref (S.a 0) 0 0,.agg p.av] K=some (uP (w.1.after me p),K')/\Walk b H g0 S c me k K' g' ls ({ w.1 with aH:=(w.1.after me p).1 },w.2):=by
 have W0:=Walk.of W.loc.good W.base W.RP;have W1:=W0.newL (ty:=112) (xs:=p.av) (r:=K.next) (aV p) rfl;have W2:=W1.newL (ty:=44) (xs:=zD9) (r:=K.next+1) rfl (by rw [fB]);have k3:iR (iR noL K.next p.av) (K.next+1) zD9 K.next=some p.av:=by rw [aB (by omega),ak]
 have lk:=W2.ldN (i:=12) (v:=I w.1.aI.aS) rfl;have ld:=W2.apq (i:=12) (n:=9) (ys:=w.1.aI.av) rfl rfl (by decide);have li:=W2.ldN (i:=10) (v:=I me) rfl;have lc:=W2.ldN (i:=0) (v:=.ref (S.a 1) 0 0) rfl;have lp:=W2.loc.lda k3 (i:=0) (n:=9) (ys:=p.av) rfl rfl (by decide);have hcache:=W2.loc.obj W2.nw.bF.2.1
 -- the end
 have fin:∀{K3:ah} {r:Nxt},Good b K3 (upd (lay (lay g ls) (iR (iR noL K.next p.av) (K.next+1) zD9)) (S.a 1) (dH r.1))->Step b ((K.new (.blk 0 112 p.av)).new (.blk 0 44 zD9)) K3->w.1.after me p=r->
   ∃K' g',st 9 (.ref (K.next+1) 0 0) (.agg r.2.1.av) K3=some (bg,K')/\lda 9 (.ref (K.next+1) 0 0) K'=some (.agg r.2.1.av,K')/\Walk b H g0 S c me k K' g' ls ({ w.1 with aH:=(w.1.after me p).1 },w.2):=by
  intro K3 r G s hr;have W3:=W2.aH G s;obtain⟨K4,u1,u2,W4⟩:=W3.whole (r:=K.next+1) (xs:=zD9) ak (n:=9) (vs:=r.2.1.av) rfl rfl (by decide) (bG _);obtain⟨g',W'⟩:=W.app (K':=K4) (w':=({ w.1 with aH:=(w.1.after me p).1 },w.2)) (by
   have:=W4.res;rw [W.len] at this;rw [hr];exact this)
  exact⟨K4,g',u1,u2,W'⟩
 by_cases h1:w.1.aI.aS=1
 ·have hm:w.1.after me p=dY w.1.aI me w.1.aH p:=by unfold Node.after;rw [if_pos h1]
  obtain⟨K3,a1,a2,a3⟩:=acp W2.loc.good W2.base hcache C w.1.aI me p hpl;obtain⟨K4,g',u1,u2,W'⟩:=fin a2 a3 hm;refine⟨K4,g',bC rfl rfl (aem _ _ _ _ ?_),W'⟩;rw [h1] at lk;rw [hm];simp only [uP] at a1 ⊢;simp only [Nat.reduceLT,Int.reduceEq,xq_,aaJ,aG (aV p),lk,ld,li,lc,lp,a1,u1,u2]
 ·by_cases h2:w.1.aI.aS=2
  ·have hm:w.1.after me p=dZ w.1.aI me w.1.aH p:=by unfold Node.after;rw [if_neg h1,if_pos h2]
   obtain⟨K3,a1,a2,a3⟩:=afb W2.loc.good W2.base hcache C w.1.aI me p hd hpl;obtain⟨K4,g',u1,u2,W'⟩:=fin a2 a3 hm;refine⟨K4,g',bC rfl rfl (aem _ _ _ _ ?_),W'⟩;rw [h2] at lk;rw [hm];simp only [uP] at a1 ⊢;simp only [Nat.reduceLT,Int.reduceEq,xq_,aaJ,aG (aV p),lk,ld,li,lc,lp,a1,u1,u2]
  ·by_cases h3:w.1.aI.aS=3
   ·have hm:w.1.after me p=eG w.1.aI w.1.aH p:=by unfold Node.after;rw [if_neg h1,if_neg h2,if_pos h3]
    obtain⟨K3,a1,a2,a3⟩:=aj1 W2.loc.good W2.base hcache C w.1.aI p me;obtain⟨K4,g',u1,u2,W'⟩:=fin a2 a3 hm;refine⟨K4,g',bC rfl rfl (aem _ _ _ _ ?_),W'⟩;rw [h3] at lk;rw [hm];simp only [uP] at a1 ⊢;simp only [Nat.reduceLT,Int.reduceEq,xq_,aaJ,aG (aV p),lk,ld,li,lc,lp,a1,u1,u2]
   ·have hm:w.1.after me p=wM w.1.aH:=by unfold Node.after;rw [if_neg h1,if_neg h2,if_neg h3]
    obtain⟨K4,g',u1,u2,W'⟩:=fin (r:=wM w.1.aH) (by rw [show(wM w.1.aH).1=w.1.aH from rfl,fQ hcache];exact W2.loc.good) (Step.refl _ _) hm;refine⟨K4,g',bC rfl rfl (aem _ _ _ _ ?_),W'⟩;rw [hm];have ez:bd 44 []=some (.agg zD9):=by simp only [xq_,XR,jC,eu]
    have hz:(wM w.1.aH).2.1.av=zD9:=mM;rw [hz] at u1 u2;simp only [uP,hz];simp only [Nat.reduceLT,xq_,aaJ,aG (aV p),lk,h1,h2,h3,ez,u1,u2];rfl
end
def Node.evs(n:Node):Nat:=2*n.bQ.bH.length+(if n.bQ.eH then 1 else 0)
def acz {c:Cfg}{d:bJ}(h:d.data=[]∨qA c d.data)(me home:Int):(d.ask me home).ok=true->yR c (d.ask me home):=by
 intro hk;have num:∀v∈d.data,I64 v:=by
  rcases h with h|h
  ·rw [h];intro v hv;cases hv
  ·exact h.2
 refine⟨hk,?_,?_⟩
 ·unfold bJ.ask
  repeat' split
  all_goals (simp [Pkt.zero])
 ·unfold bJ.ask
  repeat' split
  all_goals first|exact num|(intro v hv;cases hv)
def yI {c:Cfg}{p:Pkt}(hd:p.data=[])(hk:¬(p.aS=7∨p.aS=9)):p.ok=true->yR c p:=λh=>⟨h,λe=>absurd e hk,by rw [hd];intro v hv;cases hv⟩
def afg {c:Cfg}{dK:Rows}(b:∀e∈dK,qA c e.2.data){aj aW head:Int}{data:List Int}(hd:∀v∈data,I64 v):∀e∈(iP c dK aj aW head data).1,qA c e.2.data:=by
 unfold iP;cases ha:jE dK aj with
 |none=>exact b
 |some r=>
  simp only;split
  ·exact b
  ·split
   ·exact b
   ·rename_i i g;intro e d;rcases mZ d with rfl|d
    ·simp only;split
     ·exact b _ (mY ha)
     ·rename_i h;simp only [zbk,zah,decide_eq_true_eq,not_or,not_and,Decidable.not_not] at g;exact⟨g.2 h,hd⟩
    ·exact b e d
def UR {c:Cfg}{me:Int}{h:Home}(b:∀e∈h.dK,qA c e.2.data){p:Pkt}(hd:∀v∈p.data,I64 v):∀e∈(h.handle c me p).1.dK,qA c e.2.data:=by
 unfold Home.handle;split
 ·exact b
 split
 ·exact b
 split
 ·simp only;split <;> exact b
 ·have key:∀e∈(h.unlock c p).1.dK,qA c e.2.data:=by
   unfold Home.unlock;have d:∀v∈(if p.flag=true then p.data else []),I64 v:=by
    split
    ·exact hd
    ·intro v hv;cases hv
   generalize (if p.flag=true then p.data else [])=dat at d ⊢;split
   ·exact b
   ·simp only;split
    ·exact afg b d
    ·exact b
  simp only;split <;> exact key
def acA {c:Cfg}{ca:Cache}(I:Fp c ca)(p:Pkt):Fp c (fU ca p).1/\((fU ca p).2.1.ok=true->yR c (fU ca p).2.1)/\(fU ca p).1.dh=ca.dh/\∀(aj:Int),c.ok=true->ca.full aj=false->(fU ca p).1.full aj=false:=by
 unfold fU;have z:Pkt.zero.ok=true->yR c Pkt.zero:=yI rfl (by simp [Pkt.zero]);split
 ·exact⟨I,z,rfl,λ_ _ h=>h⟩
 rename_i j;cases i:ca.find p.aj with
 |none=>exact⟨I,z,rfl,λ_ _ h=>h⟩
 |some e=>
  obtain⟨m,o⟩:=(iL I.aY).1 i;have E:=I.ent e m;simp only [zbk,za7,not_or,zcy,decide_eq_true_eq] at j;have put:∀b:Ent,b.aj=e.aj->b.data=e.data->Fp c (ca.put b).1/\(ca.put b).1.dh=ca.dh/\∀aj,ca.full aj=false->(ca.put b).1.full aj=false:=λb d q=>by
   have g:ca.find b.aj=some e:=by rw [d,o];exact i
   refine⟨I.put (by rw [d];exact E.lo) (by rw [d];exact E.hi) (by rw [q];exact E.dat),by rw [mD I.aY (by rw [d];exact E.lo) g],λaj h=>?_⟩;rw [ad5 I.aY (by rw [d];exact E.lo) g];exact h
  simp only;split
  ·rename_i k;have u:=put { e with dn:=false,back:=p.ptr } rfl rfl;exact⟨u.1,λh=>⟨h,λ_=>E.dat,E.dat.2⟩,u.2.1,λl _ h=>u.2.2 l h⟩
  split
  ·rename_i k;have u:=put { e with fwd:=p.ptr } rfl rfl;exact⟨u.1,yI rfl (by simp only [k];decide),u.2.1,λl _ h=>u.2.2 l h⟩
  split
  ·rename_i k;have u:=put { e with back:=p.ptr } rfl rfl;exact⟨u.1,yI rfl (by simp only [k];decide),u.2.1,λl _ h=>u.2.2 l h⟩
  ·exact⟨I.drop _,λh=>⟨h,λ_=>E.dat,E.dat.2⟩,DR _ _,λl hc h=>aag hc I h⟩
def Eff.evs {c:Cfg}{me:Int}{n:Node}{r:jF}{t:List Evn}{A:NT}{B:RNT}(E:Eff c me n r t A B)(hb:n.bQ.eH=true):A.2.length+n.evs=t.length+A.1.evs:=by
 have b:A.1.bQ=⟨n.bQ.ops,n.bQ.bH++[A.2.getLast?.elim 0 (·.value)],false⟩:=by rw [E.asK]
 have d:=E.len;unfold Node.evs;rw [b,hb];simp only [zaq,zam,zao,if_true,zai,if_false];omega
def YB {ca:Cache}(d:Lines ca.l){aj:Int}{e:Ent}(h:ca.find aj=some e):(ca.touch aj).find aj=some { e with used:=ca.dh+1 }:=by
 obtain⟨g,b⟩:=(iL d).1 h;rw [yw d h];unfold Cache.find;rw [iL (Bc d λy _=>by
  split
  ·rename_i h;rw [h];exact b
  ·rfl)]
 exact⟨zaJ.2 ⟨e,g,by rw [if_pos b]⟩,b⟩
def Ji {ca:Cache}(b:Lines ca.l){aj:Int}{e:Ent}(h:ca.find aj=some e):(ca.touch aj).dh=ca.dh+1:=by rw [yw b h]
def RS {f:Fab}{i:Int}{req:Bool}(h:(f.take i req).2=none):(f.take i req).1=f:=by
 unfold Fab.take at h ⊢;split
 ·rename_i hi;rw [if_pos hi] at h;cases b:(f.port i).ql req with
  |nil=>rfl
  |cons p l=>rw [b] at h;cases h
 ·rfl
structure aj8(m:cZ):Prop where
 ok:m.c.ok=true
 len:(m.aF.length:Int)=m.c.aF
 fab:wO m.c m.fab
 bF:∀(i:Nat) n,m.aF[i]?=some n->X3 m.c i n
 evs:m.trace.length=(m.aF.map Node.evs).sum
def acB {α:Type}(f:α->Nat):∀{l:List α} {i:Nat} {a a':α},l[i]?=some a->((l.set i a').map f).sum+f a=(l.map f).sum+f a'
 |[],i,a,a',h=>by simp at h
 |x::l,0,a,a',h=>by
  simp only [zaT,zaa] at h;subst h;simp only [zb9,zay,zbz];omega
 |x::l,i+1,a,a',h=>by
  simp only [zbf] at h;have:=acB f (a':=a') h;simp only [zca,zay,zbz];omega
section
variable {b:Nat}{H:ah}{g:bD}{q:Nat}{ca:Cache}
def acC(G:Good b H g)(hb:H.base<=b)(h:g q=some (dH ca))(C:COk ca)(p:Pkt):
  ∃H',cl 130 [.ref q 0 0,.agg p.av] H=some (Y6 (fU ca p),H')/\Good b H' (upd g q (dH (fU ca p).1))/\Step b H H':=by
 by_cases d:(!p.ok || decide (p.aS<3) || decide (6<p.aS))=true
 ·exact RN G hb h C p (.inl d)
 ·cases i:ca.find p.aj with
  |none=>exact RN G hb h C p (.inr i)
  |some e=>exact afd G hb h C p d i
end
def fok {c:Cfg}(hc:c.ok=true){f:Fab}(F:wO c f):FOk c f:=by
 have B:=vT hc;refine⟨hc,by have:=F.len;have:=B.aF;omega,λp d s hs=>?_,λp d s hs q b=>?_⟩
 ·have P:=F.port p d
  match s,hs with
  |0,_=>exact P.rq
  |1,_=>exact P.rin
  |2,_=>exact P.an
  |3,_=>exact P.ain
 ·have P:=F.port p d;have Q:yR c q:=by
   match s,hs with
   |0,_=>exact P.pkt q (.inl b)
   |1,_=>exact P.pkt q (.inr (.inr (.inl b)))
   |2,_=>exact P.pkt q (.inr (.inl b))
   |3,_=>exact P.pkt q (.inr (.inr (.inr b)))
  have:=Q.ok;simp only [Pkt.ok,zah,decide_eq_true_eq] at this;omega
def RU {c:Cfg}{p:Pkt}(Q:yR c p):p.data.length<1000000000:=by
 have:=Q.ok;simp only [Pkt.ok,zah,decide_eq_true_eq] at this;omega
structure HSz(h:Home):Prop where
 t:TOk h.aT
 r:∀e∈h.dK,e.2.data.length<1000000000
def RX {h:Home}(b:∀e∈h.dK,e.2.data.length<1000000000)(aj:Int):(jr h.dK aj).data.length<1000000000:=by
 unfold jr;cases ha:jE h.dK aj with
 |none=>exact(show(0:Nat)<1000000000 by decide)
 |some r=>exact b _ (mY ha)
def oG(c:Cfg)(me:Int)(n:Node)(p:Pkt):Node × Pkt × Bool:=
 if p.aS=1∨p.aS=2 then({ n with home:=(n.home.handle c me p).1 },(n.home.handle c me p).2.1,(n.home.handle c me p).2.2.1 && decide ((n.home.handle c me p).2.2.2=0))
 else({ n with aH:=(fU n.aH p).1 },(fU n.aH p).2.1,decide ((fU n.aH p).2.2=0))
def afh(c:Cfg)(me:Int)(n:Node)(f:Fab)(p:Pkt):n.asked c me f p=((oG c me n p).1,if(oG c me n p).2.2=true then(f.send (oG c me n p).2.1).1 else f):=by
 unfold Node.asked oG;split
 ·rcases h:n.home.handle c me p with⟨b,o,ok,e⟩
  simp
 ·rcases h:fU n.aH p with⟨b,o,e⟩
  simp
def RY {c:Cfg}{me:Int}{n:Node}(C:COk n.aH)(Z:HSz n.home)(p:Pkt):(oG c me n p).2.1.data.length<1000000000:=by
 have b:(0:Nat)<1000000000:=ZS
 unfold oG;split
 ·simp only [Home.handle]
  repeat' split
  all_goals first|exact b|exact RX Z.r _
 ·simp only [fU];split
  ·exact b
  ·cases d:n.aH.find p.aj with
   |none=>exact b
   |some e=>
    have g:=C.dat e (zba d);simp only
    repeat' split
    all_goals first|exact b|exact g
section
variable {b:Nat}{H:ah}{g0:bD}{S:S9}{c:Cfg}{me:Int}{k:Nat}{K K':ah}{g:bD}{ls:Lcl}{w w':NFT}
def acD(W:Walk b H g0 S c me k K g ls w)(hc:c.ok=true)(C:COk w.1.aH)(Z:HSz w.1.home)(p:Pkt)(hpl:p.data.length<1000000000):
  ∃K' g',cl 83 [.ref (S.a 0) 0 0,.agg p.av] K=some (.tup [.agg (oG c me w.1 p).2.1.av,B (oG c me w.1 p).2.2],K')/\Walk b H g0 S c me k K' g' ls ((oG c me w.1 p).1,w.2):=by
 have W0:=Walk.of W.loc.good W.base W.RP;have W1:=W0.newL (ty:=112) (xs:=p.av) (r:=K.next) (aV p) rfl;have W2:=W1.newL (ty:=112) (xs:=zP9) (r:=K.next+1) rfl (by rw [fB]);have W3:=W2.newL (ty:=112) (xs:=zP9) (r:=K.next+1+1) rfl (by rw [fB,fB]);have k2:iR (iR noL K.next p.av) (K.next+1) zP9 K.next=some p.av:=by rw [aB (by omega),ak]
 have k3:iR (iR (iR noL K.next p.av) (K.next+1) zP9) (K.next+1+1) zP9 K.next=some p.av:=by rw [aB (by omega)];exact k2
 have k4:iR (iR (iR noL K.next p.av) (K.next+1) zP9) (K.next+1+1) zP9 (K.next+1)=some zP9:=by rw [aB (by omega),ak]
 have k5:iR (iR (iR noL K.next p.av) (K.next+1) zP9) (K.next+1+1) zP9 (K.next+1+1)=some zP9:=ak;have lk:=W2.loc.ld k2 (i:=0) (v:=I p.aS) rfl;have lp:=W3.loc.lda k3 (i:=0) (n:=9) (ys:=p.av) rfl rfl (by decide);have lh:=W3.ldN (i:=11) (v:=.ref (S.a 3) 0 0) rfl;have lc:=W3.ldN (i:=0) (v:=.ref (S.a 1) 0 0) rfl
 -- the end
 have fin:∀{K4:ah} {g4:bD} {n':Node} {out:Pkt} {v:AV},Walk b K (lay g ls) S c me w.2.1.l.length K4 g4 (iR (iR (iR noL K.next p.av) (K.next+1) zP9) (K.next+1+1) zP9) (n',w.2)->
   (∀f args,cl f args (((K.new (.blk 0 112 p.av)).new (.blk 0 112 zP9)).new (.blk 0 112 zP9))=some (v,K4)->
   (∀{β:Type} (kk:Option β),ckR (K.next+1+1) (K.next+1+1+1) (((K.new (.blk 0 112 p.av)).new (.blk 0 112 zP9)).new (.blk 0 112 zP9)) K4 kk=kk)/\
   ∃K5 K6 g',st 9 (.ref (K.next+1+1) 0 0) (.agg out.av) K4=some (bg,K5)/\lda 9 (.ref (K.next+1+1) 0 0) K5=some (.agg out.av,K5)/\st 9 (.ref (K.next+1) 0 0) (.agg out.av) K5=some (bg,K6)/\lda 9 (.ref (K.next+1) 0 0) K6=some (.agg out.av,K6)/\Walk b H g0 S c me k K6 g' ls (n',w.2)):=by
  intro K4 g4 n' out v W4 f args hcl;refine⟨λkk=>apn λr h1 h2=>?_,?_⟩
  ·obtain rfl:r=K.next+1+1:=by omega
   exact Xc W3.loc.good W4.loc.good (WZ _ _ _ _ _ hcl) (qK k5) (qK k5)
  ·obtain⟨K5,u1,u2,W5⟩:=W4.whole k5 (n:=9) (vs:=out.av) rfl (bZ _) (by decide) (aV _);obtain⟨K6,u3,u4,W6⟩:=W5.whole (r:=K.next+1) (xs:=zP9) (by rw [aB (by omega)];exact k4) (n:=9) (vs:=out.av) rfl (bZ _) (by decide) (aV _);obtain⟨g',W'⟩:=W.app (K':=K6) (w':=(n',w.2)) (by
    have:=W6.res;rw [W.len] at this;exact this)
   exact⟨K5,K6,g',u1,u2,u3,u4,W'⟩
 by_cases hk:p.aS=1∨p.aS=2
 ·have hm:oG c me w.1 p=({ w.1 with home:=(w.1.home.handle c me p).1 },(w.1.home.handle c me p).2.1,(w.1.home.handle c me p).2.2.1 && decide ((w.1.home.handle c me p).2.2.2=0)):=by unfold oG;rw [if_pos hk]
  rw [hm];have HI:=W3.RP.bF.2.2.2;obtain⟨K4,a1,a2,a3⟩:=ace W3.loc.good W3.base HI hc Z.t.nd Z.t.ws Z.r p hpl;have W4:=W3.home a2 a3;obtain⟨ck,K5,K6,g',u1,u2,u3,u4,W'⟩:=fin W4 _ _ a1 (out:=(w.1.home.handle c me p).2.1);refine⟨K6,g',bC rfl rfl (amW _ _ _ _ ?_),W'⟩;simp only [Xb] at a1;obtain⟨ok,hok⟩:∃ok,(w.1.home.handle c me p).2.2.1=ok:=⟨_,rfl⟩
  rw [hok] at a1 ⊢;have cR:∀{β:Type} (kk:Option β),ckR ((K.new (.blk 0 112 p.av)).new (.blk 0 112 zP9)).next (((K.new (.blk 0 112 p.av)).new (.blk 0 112 zP9)).new (.blk 0 112 zP9)).next (((K.new (.blk 0 112 p.av)).new (.blk 0 112 zP9)).new (.blk 0 112 zP9)) K4 kk=kk:=by
   intro β kk;simp only [fB];exact ck kk
  rcases hk with h1|h1
  ·rw [h1] at lk;cases ok with
   |true=>simp only [Nat.reduceLT,xq_,Ya,aG (aV p),lk,lh,lp,a1,ck,u1,u2,u3,u4,zaN]
   |false=>simp only [Nat.reduceLT,xq_,Ya,aG (aV p),lk,lh,lp,a1,ck,u1,u2,u3,u4,zaP]
  ·rw [h1] at lk;cases ok with
   |true=>simp only [Nat.reduceLT,Int.reduceEq,xq_,Ya,aG (aV p),lk,lh,lp,a1,ck,u1,u2,u3,u4,zaN]
   |false=>simp only [Nat.reduceLT,Int.reduceEq,xq_,Ya,aG (aV p),lk,lh,lp,a1,ck,u1,u2,u3,u4,zaP]
 ·have hm:oG c me w.1 p=({ w.1 with aH:=(fU w.1.aH p).1 },(fU w.1.aH p).2.1,decide ((fU w.1.aH p).2.2=0)):=by unfold oG;rw [if_neg hk]
  rw [hm];obtain⟨K4,a1,a2,a3⟩:=acC W3.loc.good W3.base (W3.loc.obj W3.nw.bF.2.1) C p;have W4:=W3.aH a2 a3;obtain⟨ck,K5,K6,g',u1,u2,u3,u4,W'⟩:=fin W4 _ _ a1 (out:=(fU w.1.aH p).2.1);refine⟨K6,g',bC rfl rfl (amW _ _ _ _ ?_),W'⟩;have h1:¬p.aS=1:=λh=>hk (.inl h);have h2:¬p.aS=2:=λh=>hk (.inr h);simp only [Y6] at a1;simp only [Nat.reduceLT,xq_,Ya,aG (aV p),lk,h1,h2,lc,lp,a1,ck,u1,u2,u3,u4]
end
end
end Go.Proofs.YtljogojaihgdlaaGreat
