/-
  Own work: an interpreter over named blocks, its soundness, and what the functions of this seat compute (part 9 of 12).
  Conditions: those of the statement alone.
-/
import Derived.Shelf.SlGeneric
import Derived.Ground.SlgmProg
import Derived.Ground.GgzProg
import Derived.Shelf.SortM.SortNone
import Derived.Shelf.SortM.Plain
import Derived.Shelf.SlIterI.Nil
import Derived.Test.YtljogojaihgdlaaGreatProg
import Derived.KernelRfl
import Derived.Test.YtljogojaihgdlaaGreatHh
set_option linter.all false
set_option linter.unusedSectionVars false
set_option linter.unusedVariables false
set_option linter.unusedSimpArgs false
namespace Go.Proofs
open Go.Shelf
def Tryz.sortedA_ren:Go.Shelf.Ren:=⟨fun|6=>163|8=>184|9=>185|11=>193|13=>195|12=>194|23=>205|24=>206|14=>196|15=>197|16=>198|17=>199|18=>200|19=>201|20=>202|21=>203|22=>204|25=>207|26=>208|27=>209|28=>210|29=>211|30=>212|31=>213|n=>n,fun|26=>3|28=>254|24=>22|0=>0|3=>3|37=>223|48=>234|50=>268|4=>4|40=>293|39=>292|45=>170|5=>5|9=>9|51=>300|55=>304|57=>306|58=>130|33=>118|n=>n,fun|n=>n⟩
def Tryz.sortedA:Go.Proofs.SlLaysZI.n6 Tryz.prog Tryz.sortedA_ren:={
 mixed:=by kernel_rfl
 f6:=⟨Tryz.f163.name,by decide,Tryz.func163.trans (congrArg some (by kernel_rfl))⟩
 f8:=⟨Tryz.f184.name,by decide,Tryz.func184.trans (congrArg some (by kernel_rfl))⟩
 f11:=⟨Tryz.f193.name,by decide,Tryz.func193.trans (congrArg some (by kernel_rfl))⟩
 t0:=Tryz.underlying0
 a0:=Tryz.isAgg0
 z0:=Tryz.sizeOf0
 v0:=Tryz.zeroValue0
 t24:=Tryz.underlying22
 a24:=Tryz.isAgg22
 z24:=Tryz.sizeOf22
 v24:=Tryz.zeroValue22
 t26:=Tryz.underlying3
 a26:=Tryz.isAgg3
 z26:=Tryz.sizeOf3
 v26:=Tryz.zeroValue3
 t28:=Tryz.underlying254
 a28:=Tryz.isAgg254
 z28:=Tryz.sizeOf254
 v28:=Tryz.zeroValue254
 i26:=by kernel_rfl }
def Tryz.keysA_ren:Go.Shelf.Ren:=⟨fun|7=>164|10=>186|n=>n,fun|23=>201|26=>3|3=>256|28=>254|0=>0|27=>253|33=>118|4=>4|n=>n,fun|n=>n⟩
def Tryz.keysA:Go.Proofs.SlLaysZI.n7 Tryz.prog Tryz.keysA_ren:={
 mixed:=by kernel_rfl
 f7:=⟨Tryz.f164.name,by decide,Tryz.func164.trans (congrArg some (by kernel_rfl))⟩
 f10:=⟨Tryz.f186.name,by decide,Tryz.func186.trans (congrArg some (by kernel_rfl))⟩
 t0:=Tryz.underlying0
 a0:=Tryz.isAgg0
 z0:=Tryz.sizeOf0
 v0:=Tryz.zeroValue0
 t4:=Tryz.underlying4
 a4:=Tryz.isAgg4
 z4:=Tryz.sizeOf4
 v4:=Tryz.zeroValue4
 t23:=Tryz.underlying201
 a23:=Tryz.isAgg201
 z23:=Tryz.sizeOf201
 v23:=Tryz.zeroValue201
 t26:=Tryz.underlying3
 a26:=Tryz.isAgg3
 z26:=Tryz.sizeOf3
 v26:=Tryz.zeroValue3
 t27:=Tryz.underlying253
 a27:=Tryz.isAgg253
 z27:=Tryz.sizeOf253
 v27:=Tryz.zeroValue253
 t28:=Tryz.underlying254
 a28:=Tryz.isAgg254
 z28:=Tryz.sizeOf254
 v28:=Tryz.zeroValue254
 t33:=Tryz.underlying118
 a33:=Tryz.isAgg118
 z33:=Tryz.sizeOf118
 v33:=Tryz.zeroValue118 }
def Tryz.sortA_ren:Go.Shelf.Ren:=⟨fun|5=>185|8=>195|7=>194|19=>205|20=>206|10=>196|11=>197|12=>198|13=>199|14=>200|15=>201|16=>202|17=>203|18=>204|30=>207|31=>208|32=>209|33=>210|34=>211|35=>212|40=>213|n=>n,fun|23=>22|25=>3|3=>3|32=>223|22=>22|0=>0|44=>234|46=>268|4=>4|36=>293|35=>292|41=>170|5=>5|9=>9|53=>300|57=>304|63=>306|64=>130|n=>n,fun|n=>n⟩
def Tryz.sortA:Go.Proofs.SlLaysM.n5 Tryz.prog Tryz.sortA_ren:={
 mixed:=by kernel_rfl
 f5:=⟨Tryz.f185.name,by decide,Tryz.func185.trans (congrArg some (by kernel_rfl))⟩
 f7:=⟨Tryz.f194.name,by decide,Tryz.func194.trans (congrArg some (by kernel_rfl))⟩
 f8:=Tryz.func195.trans (congrArg some (by kernel_rfl))
 f10:=⟨Tryz.f196.name,by decide,Tryz.func196.trans (congrArg some (by kernel_rfl))⟩
 f11:=⟨Tryz.f197.name,by decide,Tryz.func197.trans (congrArg some (by kernel_rfl))⟩
 f12:=⟨Tryz.f198.name,by decide,Tryz.func198.trans (congrArg some (by kernel_rfl))⟩
 f13:=⟨Tryz.f199.name,by decide,Tryz.func199.trans (congrArg some (by kernel_rfl))⟩
 f14:=⟨Tryz.f200.name,by decide,Tryz.func200.trans (congrArg some (by kernel_rfl))⟩
 f15:=⟨Tryz.f201.name,by decide,Tryz.func201.trans (congrArg some (by kernel_rfl))⟩
 f16:=⟨Tryz.f202.name,by decide,Tryz.func202.trans (congrArg some (by kernel_rfl))⟩
 f17:=⟨Tryz.f203.name,by decide,Tryz.func203.trans (congrArg some (by kernel_rfl))⟩
 f18:=⟨Tryz.f204.name,by decide,Tryz.func204.trans (congrArg some (by kernel_rfl))⟩
 f19:=Tryz.func205.trans (congrArg some (by kernel_rfl))
 f20:=Tryz.func206.trans (congrArg some (by kernel_rfl))
 f30:=⟨Tryz.f207.name,by decide,Tryz.func207.trans (congrArg some (by kernel_rfl))⟩
 f31:=Tryz.func208.trans (congrArg some (by kernel_rfl))
 f32:=Tryz.func209.trans (congrArg some (by kernel_rfl))
 f33:=⟨Tryz.f210.name,by decide,Tryz.func210.trans (congrArg some (by kernel_rfl))⟩
 f34:=⟨Tryz.f211.name,by decide,Tryz.func211.trans (congrArg some (by kernel_rfl))⟩
 f35:=⟨Tryz.f212.name,by decide,Tryz.func212.trans (congrArg some (by kernel_rfl))⟩
 f40:=⟨Tryz.f213.name,by decide,Tryz.func213.trans (congrArg some (by kernel_rfl))⟩
 t0:=Tryz.underlying0
 a0:=Tryz.isAgg0
 z0:=Tryz.sizeOf0
 v0:=Tryz.zeroValue0
 t3:=Tryz.underlying3
 a3:=Tryz.isAgg3
 z3:=Tryz.sizeOf3
 v3:=Tryz.zeroValue3
 t4:=Tryz.underlying4
 a4:=Tryz.isAgg4
 z4:=Tryz.sizeOf4
 v4:=Tryz.zeroValue4
 t5:=Tryz.underlying5
 a5:=Tryz.isAgg5
 z5:=Tryz.sizeOf5
 v5:=Tryz.zeroValue5
 t9:=Tryz.underlying9
 a9:=Tryz.isAgg9
 z9:=Tryz.sizeOf9
 v9:=Tryz.zeroValue9
 t22:=Tryz.underlying22
 a22:=Tryz.isAgg22
 z22:=Tryz.sizeOf22
 v22:=Tryz.zeroValue22
 t23:=Tryz.underlying22
 a23:=Tryz.isAgg22
 z23:=Tryz.sizeOf22
 v23:=Tryz.zeroValue22
 t25:=Tryz.underlying3
 a25:=Tryz.isAgg3
 z25:=Tryz.sizeOf3
 v25:=Tryz.zeroValue3
 t32:=Tryz.underlying223
 a32:=Tryz.isAgg223
 z32:=Tryz.sizeOf223
 v32:=Tryz.zeroValue223
 t35:=Tryz.underlying292
 a35:=Tryz.isAgg292
 z35:=Tryz.sizeOf292
 v35:=Tryz.zeroValue292
 t36:=Tryz.underlying293
 a36:=Tryz.isAgg293
 z36:=Tryz.sizeOf293
 v36:=Tryz.zeroValue293
 t41:=Tryz.underlying170
 a41:=Tryz.isAgg170
 z41:=Tryz.sizeOf170
 v41:=Tryz.zeroValue170
 t44:=Tryz.underlying234
 a44:=Tryz.isAgg234
 z44:=Tryz.sizeOf234
 v44:=Tryz.zeroValue234
 t46:=Tryz.underlying268
 a46:=Tryz.isAgg268
 z46:=Tryz.sizeOf268
 v46:=Tryz.zeroValue268
 t53:=Tryz.underlying300
 a53:=Tryz.isAgg300
 z53:=Tryz.sizeOf300
 v53:=Tryz.zeroValue300
 t57:=Tryz.underlying304
 a57:=Tryz.isAgg304
 z57:=Tryz.sizeOf304
 v57:=Tryz.zeroValue304
 t63:=Tryz.underlying306
 a63:=Tryz.isAgg306
 z63:=Tryz.sizeOf306
 v63:=Tryz.zeroValue306
 t64:=Tryz.underlying130
 a64:=Tryz.isAgg130
 z64:=Tryz.sizeOf130
 v64:=Tryz.zeroValue130 }
end Go.Proofs
namespace Go.Proofs.YtljogojaihgdlaaGreat
noncomputable section
open Go.RowKit Go.Maps Go.Sort Go.Shelf
def ajR(m:Nat):AnyZI.SortsIn Tryz.prog Tryz.sortedA_ren Fence.wide m:=
 ⟨λblk off b e W g d hsz=>callsIn_wide.2 (AnyM.slices_Sort_int Tryz.sortA blk off b e W g d hsz),
  λp b W=>callsIn_wide.2 (AnyM.slices_Sort_int_none Tryz.sortA p b W)⟩
abbrev ajS:Value->Option (DataW Unit × List MemPlace):=λ_=>some (.lit (.bool true),[])
def apf {ρ:Ren}{H:ah}{w w':World}(R:Rel ρ H w)(hb:Below w.heap.size w w'){v:Value}{zs:List Int}{e:TypeId}(h0:zs≠[])(h:w'.ownsRow w.heap.size e 1 v zs.length (zs.map encZ)):
  RV ρ H.gen w' (.vs zs.length 1 (zs.map λn=>.s (.int .i64 n))) v:=by
 obtain⟨_,⟨rfl,d⟩|⟨g,i,cur,rfl,d,k,p,y,z,q⟩⟩:=h
 ·exact absurd (zat d) h0
 ·simp only [RV];refine⟨g,0,i,rfl,p,O,(zbC.1 k).1,QI R d,?_⟩;have key:∀(l:List Int) (o:Nat),(∀j,j<l.length->w'.cell? ⟨g,o+j,none⟩=(l[j]?).map encZ)->RVc ρ H.gen w' (l.map λn=>.s (.int .i64 n)) g o:=by
   intro l
   induction l with
   |nil=>intro o _;simp only [zbJ,RVc]
   |cons a l u=>
    intro o hc;simp only [zax,RVc];refine⟨⟨encZ a,by have:=hc 0 O;simpa using this,by simp only [RV]⟩,u (o+1) λj m=>?_⟩;have:=hc (j+1) (by simp only [zal];omega);rw [show o+(j+1)=o+1+j by omega] at this
    simpa using this
  refine key zs 0 λj m=>?_;rw [za6,zbO] at*;have b:cur.toList[j]?=(zs.map encZ)[j]?:=by rw [<-q,zaB,if_pos m]
  rw [zaH] at b;unfold World.cell?;simp only [k,<-b,zcY,zaK,zai,if_false]
def UR:VZ 163 (C9 Et KY):=by
 have key:∀k H v H',C9 Et KY k H=some (v,H')->H'=H/\∃f r g,k=[.fn (.func f) [] [.ref r g 0]]/\f≠0/\
   ((∃o m d,H.get r=.blk g o [.mp m]/\o<iC/\H.get m=.map .i64 d/\f∈Et/\(d.map (·.1)).Nodup/\(d.all λe=>(Lit.int .i64 e.1).wf)=true/\d.length<=1000000/\v=aag (d.map (·.1)))∨
    (∃o,H.get r=.blk g o [.s (.slice none 0 0)]/\o<iC/\f∈KY/\v=alV)):=by
  intro k H v H' h;unfold C9 at h;split at h
  ·rename_i f r g;split at h
   ·rename_i g' o m q;split at h
    ·rename_i d hm;split at h
     ·rename_i hc;obtain⟨rfl,F,G,L,h4,h5,h6⟩:=hc;cases h;exact⟨rfl,f,r,_,rfl,G,.inl ⟨o,m,d,q,F,hm,L,h4,h5,h6,rfl⟩⟩
     ·cases h
    ·cases h
   ·rename_i g' o q;split at h
    ·rename_i hc;obtain⟨rfl,F,G,L⟩:=hc;cases h;exact⟨rfl,f,r,_,rfl,G,.inr ⟨o,q,F,L,rfl⟩⟩
    ·cases h
   ·cases h
  ·cases h
 refine⟨KR λk H v H' h ρ w lM R ha=>?_,λk H v H' h=>?_⟩;rotate_left
 ·rw [(key _ _ _ _ h).1];exact Keeps.refl H
 ·obtain⟨rfl,f,r,g,rfl,M,hh⟩:=key _ _ _ _ h;obtain⟨cf,rfl,F⟩:=Uj ha;simp only [RV] at F;obtain⟨fa,fc,rfl,G,L⟩:=F;have al:fa=#[]:=by simp only [RVs] at G;exact Array.ext' (by simpa using G)
  subst al;obtain⟨cp,rfl,h4⟩:=Uj L;simp only [RV] at h4;obtain⟨a,rfl,h5,h6⟩:=h4;rcases hh with⟨o,m,d,q,D,hm,hk,am,ao,aE,rfl⟩|⟨o,q,D,hv,rfl⟩
  ·have hg:H'.gen r=g:=by simp [ah.gen,q,gu.gen]
   obtain⟨b,sh,h7,rfl⟩:=h6 hg;have Q:=R.obj r b sh h7;simp only [zA,q] at Q;obtain⟨cs,e,o1,o2,T,o4⟩:=Q;obtain⟨o5,rfl,o7⟩:=o4.1 D;simp only [RVc] at T;obtain⟨⟨mv,o8,W⟩,_⟩:=T;simp only [RV] at W;obtain⟨bm,rfl,ap⟩:=W;have aq:=ap (by simp [ah.gen,hm,gu.gen]);have X:=R.obj m bm 0 aq;simp only [zA,hm] at X;obtain⟨i,dh,m1,_,m3,m4⟩:=X;have j:i.toList.map (λx=>x.key)=(d.map (·.1)).map encZ:=by
    have:∀(d:List (Int × AV)) (l:List MapEntry),RVm ρ H'.gen w .i64 d l->l.map (λx=>x.key)=(d.map (·.1)).map encZ:=by
     intro d
     induction d with
     |nil=>intro l hl;simp only [RVm] at hl;subst hl;rfl
     |cons x d ih=>
      intro l hl;obtain⟨n,y⟩:=x;simp only [RVm] at hl;obtain⟨e,ar,rfl,k1,_,k3⟩:=hl;simp only [zax,k1,ih ar k3]
    exact this d _ m3
   have hsz:i.size=d.length:=by
    have:=congrArg List.length j
    simpa using this
   have aa:∀x∈i.toList,∃n,n∈d.map (·.1)/\x.key=encZ n/\Go.WideElems.rd Tryz.prog 3 ajS x=some (.int .i64 n,.lit (.bool true)):=by
    intro x hx;have aw:x.key∈(d.map (·.1)).map encZ:=by rw [<-j];exact zaI.2 ⟨x,hx,rfl⟩
    obtain⟨n,hn,u⟩:=zaI.1 aw;refine⟨n,hn,u.symm,?_⟩;have hw:(Lit.int .i64 n).wf=true:=by
     obtain⟨e,he,rfl⟩:=zaI.1 hn;exact zaZ.1 ao e he
    have ax:keyOf Tryz.prog 3 x.key=some (.int .i64 n):=by
     rw [<-u];simp [keyOf,mapKey,Tryz.underlying3,hw]
    exact Go.WideElems.rd_mk (R:=ajS) (key:=x.key) (val:=x.val) (born:=x.born) (yv:=(.lit (.bool true),[])) ax rfl
   have ay:(i.toList.map (λx=>x.key)).Nodup:=by
    rw [j];exact zcx.2 (am.imp λaz he=>az (encZ_inj he))
   let K:DataW Unit:=.map ((i.toList.map (Go.WideElems.rg Tryz.prog 3 ajS)).foldr DataW.insert []);have ab:w.ownsMap Tryz.prog 3 ajS bm i.size K:=⟨i,dh,m1,⟨by rw [hsz];unfold maxLen;omega,⟨m4.1,m4.2,ay⟩,λx hx=>by
    obtain⟨n,_,_,h⟩:=aa x hx;exact⟨_,h⟩⟩,zac _,rfl⟩
   have aD:(intKeys K).Perm (d.map (·.1)):=by
    have p1:((i.toList.map (Go.WideElems.rg Tryz.prog 3 ajS)).foldr DataW.insert []).Perm (i.toList.map (Go.WideElems.rg Tryz.prog 3 ajS)):=Go.WideShapes.sorted_perm _;have p2:=p1.map λp=>Go.intOf p.1;refine p2.trans ?_;have:(i.toList.map (Go.WideElems.rg Tryz.prog 3 ajS)).map (λp=>Go.intOf p.1)=d.map (·.1):=by
     rw [zc2];have ad:∀a b:List Int,a.map encZ=b.map encZ->a=b:=λa b h=>by
      have:=congrArg (List.map λv:Value=>match v with|.int _ n=>n|_=>0) h
      simpa [zc2,Function.comp_def,encZ] using this
     refine ad _ _ ?_;rw [<-j,zc2];refine zbt λx hx=>?_;obtain⟨n,_,u,q⟩:=aa x hx;simp only [Function.comp_apply,Go.WideElems.rg_of q,Go.intOf,u]
    rw [this]
   have ae:Maps.size K=d.length:=by
    show((i.toList.map _).foldr DataW.insert []).length=_;rw [(Go.WideShapes.sorted_perm _).length_eq,zaE,Array.length_toList,hsz]
   have af:b<w.heap.size:=(zbC.1 o1).1;obtain rfl:f=186:=by
    simp only [Et,zaj,zaA,or_false] at hk;rcases hk with hk|hk
    ·exact hk
    ·exact absurd hk M
   have ag:SeqGives Fence.wide 2 Tryz.prog 186 #[.pointer (some ⟨b,0,none⟩)] encZ (λss=>ss.Perm (intKeys K)) (Maps.size K) w:=
    AnyZI.keys_gives (ρ:=Tryz.keysA_ren) { Tryz.keysA with } Fence.wide _ trivial rfl V b bm _ K w af o8 ab
   have cS:=AnyZI.sorted_in Tryz.sortedA Fence.wide 5 trivial trivial trivial trivial rfl V (ajR _) (enters_of Tryz.func185 J rfl) 186 #[.pointer (some ⟨b,0,none⟩)] trivial (enters_of Tryz.func186 J rfl) _ _ (by rw [ae];unfold maxLen;omega) (by rw [ae];omega) _ ag;refine((callsIn_wide (n:=5)).1 cS).mono λe w' ⟨v,ss,he,hp,C,ai,hB⟩=>?_;obtain⟨r1,r2⟩:=Ir R hB;have z:=hp.trans aD;refine⟨v,ρ,he,r1,?_,r2⟩;unfold aag;split
   ·rename_i hz;rw [hz] at z;have:=ai.2 z.eq_nil;subst this;simp only [alV,RV]
   ·rename_i hz;have E:ss.length=(d.map (·.1)).length:=z.length_eq;rw [mergeSort_of_perm_i z] at C;have A:((d.map (·.1)).mergeSort leI).length=(d.map (·.1)).length:=List.length_mergeSort _;have:=apf R hB (zs:=(d.map (·.1)).mergeSort leI) (λh=>hz (by
     rw [h] at A;exact zat A.symm)) (by rw [A,<-E];exact C)
    rw [A] at this;exact this
  ·have hg:H'.gen r=g:=by simp [ah.gen,q,gu.gen]
   obtain⟨b,sh,h7,rfl⟩:=h6 hg;have Q:=R.obj r b sh h7;simp only [zA,q] at Q;obtain⟨cs,e,o1,o2,T,o4⟩:=Q;obtain⟨o5,rfl,o7⟩:=o4.1 D;simp only [RVc] at T;obtain⟨⟨mv,o8,W⟩,_⟩:=T;simp only [RV] at W;subst W;have af:b<w.heap.size:=(zbC.1 o1).1;simp only [KY,zaj,zaA,or_false] at hv;exact absurd hv M
open Go.RowKit
def ajT:∀x∈aiQ,VZ x.1 x.2:=by
 unfold aiQ;refine zci.2 ⟨UR,?_⟩;refine zci.2 ⟨aiR _,?_⟩;refine zci.2 ⟨UQ,?_⟩;refine zci.2 ⟨aiR _,?_⟩;refine zci.2 ⟨aiR _,?_⟩;refine zci.2 ⟨⟨λf b H v H' h=>?_,λb H v H' h=>(by cases h)⟩,λx d=>(by cases d)⟩;simp only at h;split at h <;> cases h
def LG {α:Type}{f:Nat}{p:α}:∀{l:List (Nat × α)},l.lookup f=some p->(f,p)∈l
 |[],h=>by cases h
 |(k,q)::l,h=>by
  rw [List.lookup_cons] at h;split at h
  ·rename_i e;cases h;rw [beq_iff_eq] at e;subst e;simp
  ·exact za9 _ (LG h)
def apg:XK Tryz.prog pol:=λf p h=>ajT (f,p) (LG h)
def Xb:kV cl:=(callω_ok (P:=Tryz.prog) apg J).2
open Go.ChangeShapes Go.WideShapes Go.ChangeAt Go.RowKit
def asL:XK Tryz.prog pol:=
 apg
def auy {w:World}:adb ρ0 w:=⟨λb hb=>(by cases hb),trivial⟩
def asM:ownKnob Tryz.prog.godebug=none:=J
def aph:laidOutB Tryz.prog=true:=J
def ajU:Tryz.prog.follows .mixedOrders=true:=J
def ae3:Tryz.prog.cellTypes Tryz.prog.depth 24=some [3,3,3,3,3,3,3,22,22,22,22,22]:=J
set_option maxRecDepth 100000 in
theorem apj {H:Type}{enc:TypeId × Value->H}{W:World}{r:Reach}{g base:Nat}{i:Nat->Bool}{b:Bool}{v:Value}{d:DataW H}{ps:List MemPlace}(e:Value.okWide Tryz.prog W r g 24 v)(h:DataW.Trod enc Tryz.prog W base i b 24 v d ps):
  ∃(s:lg) (zi zw zk za zv:List Int),RV ρ0 G0 W (.agg s.cells) v/\s.Ok zi zw zk za zv:=
 XT Tryz.underlying24 ae3 J J  Tryz.underlying3 J Tryz.underlying22 J Tryz.underlying3 J e h
set_option maxRecDepth 100000 in
theorem apk {H:Type}{enc:TypeId × Value->H}{W:World}{r:Reach}{g base:Nat}{i:Nat->Bool}{b:Bool}{v:Value}{d:DataW H}{ps:List MemPlace}(e:Value.okWide Tryz.prog W r g 22 v)(h:DataW.Trod enc Tryz.prog W base i b 22 v d ps):
  ∃(x:AV) (zs:List Int),RV ρ0 G0 W x v/\AZ .i64 x zs:=
 XU Tryz.underlying22 Tryz.underlying3 J e h
set_option maxRecDepth 100000 in
theorem apl:aae Tryz.prog 71 al3:=by
 refine Uh Tryz.underlying71 J rfl λi f k d b=>?_
 match i,d,b with
 |0,d,b=>simp at d b;subst d;subst b;exact⟨Tryz.underlying3,rfl,J⟩
 |1,d,b=>simp at d b;subst d;subst b;exact⟨Tryz.underlying3,rfl,J⟩
 |2,d,b=>simp at d b;subst d;subst b;exact⟨Tryz.underlying3,rfl,J⟩
 |3,d,b=>simp at d b;subst d;subst b;exact⟨Tryz.underlying50,rfl,J⟩
 |i+4,d,b=>simp at b
set_option maxRecDepth 100000 in
theorem ab7 {H:Type}{enc:TypeId × Value->H}{W:World}{r:Reach}{g base:Nat}{i:Nat->Bool}{b:Bool}{v:Value}{d:DataW H}{ps:List MemPlace}(e:Value.okWide Tryz.prog W r g 61 v)(h:DataW.Trod enc Tryz.prog W base i b 61 v d ps):
  ∃(x:AV) (cs:List Cho),RV ρ0 G0 W x v/\agL x cs:=
 QT Tryz.underlying61 J apl e h
def Xc(p:Pkt){d:Nat}:∀x∈p.av,Frz (d+2) x:=λx b=>by
 simp only [Pkt.av,zaj,zaA,or_false] at b;rcases b with rfl|rfl|rfl|rfl|rfl|rfl|rfl|rfl|rfl <;> first|exact iD|exact vS
section
variable {b:Nat}{H:ah}{g:bD}{q:Nat}
def aqc(a c:Bool):bi .neq 4 (B a) (B c)=some (B (a !=c)):=by
 rw [aeQ];cases a <;> cases c <;> rfl
def apm(G:Good b H g)(hb:H.base<=b){c:Cfg}{dJ:Rows}(h:g q=some (EP c dJ))(aj aV head:Int)(data:List Int)(W:data.length<1000000000):
  ∃H',cl 188 [.ref q 0 0,I aj,I aV,I head,dat data] H=some (I (iL c dJ aj aV head data).2,H')/\Good b H' (upd g q (EP c (iL c dJ aj aV head data).1))/\Step b H H':=by
 obtain⟨r,k,X,_⟩:=G.map h (i:=8) rfl;have j:=X (.agg #[.int .i64 0,.int .i64 0,.slice none 0 0]) aj true;rw [yA] at j;have e:H.base<=H.next:=zaz hb G.1
 refine kQ rfl rfl (aoH _ _ _ _ _ _ _) ?_;cases z:jC dJ aj with
 |none=>
  simp only [z,zda,if_true] at j;have u:iL c dJ aj aV head data=(dJ,3):=by simp only [iL,z]
  have zc:AV.cells (.s (.agg #[.int .i64 0,.int .i64 0,.slice none 0 0]))=[zI,zI,zN]:=rfl;have zn:zN.aP=true:=rfl;rw [u];refine⟨H.new (.blk 0 199 [zI,zI,zN]),?_,by rw [fP h];exact G.new _,Step.new _ G.1⟩;simp only [Int.reduceNeg,Nat.reduceAdd,aO,xq_,hq_,zx,k,j,zc,zn,e,zam]
 |some w=>
  simp only [z,zak,if_true] at j;let H1:=H.new (.blk 0 199 w.av);have F:Good b H1 g:=G.new _;have o:=F.load h (i:=0) (x:=I c.aB) rfl;have C:=F.load h (i:=2) (x:=I c.bI) rfl;have L:=λH=>(kY H data).lnS;have e5:=λH=>kC H data W;by_cases d:aV<0∨2<aV∨head < -1∨c.aB<=head
  ·have u:iL c dJ aj aV head data=(dJ,1):=by simp only [iL,z];rw [if_pos d]
   rw [u];refine⟨H1,?_,by rw [fP h];exact F,Step.new _ G.1⟩;simp only [H1] at o C;by_cases m:aV<0
   ·simp only [Int.reduceNeg,Nat.reduceAdd,aO,xq_,hq_,zx,k,j,e,zaf,m];rfl
   ·by_cases p:2<aV
    ·simp only [Int.reduceNeg,Nat.reduceAdd,aO,xq_,hq_,zx,k,j,e,zaf,m,p];rfl
    ·by_cases v:head < -1
     ·simp only [Int.reduceNeg,Nat.reduceAdd,aO,xq_,hq_,zx,k,j,e,zaf,m,p,v];rfl
     ·have A:c.aB<=head:=V
      simp only [Int.reduceNeg,Nat.reduceAdd,aO,xq_,hq_,zx,k,j,e,zaf,m,p,v,o,A];rfl
  ·have m:¬aV<0:=λh=>d (.inl h);have p:¬2<aV:=λh=>d (.inr (.inl h));have v:¬head < -1:=λh=>d (.inr (.inr (.inl h)));have A:¬c.aB<=head:=λh=>d (.inr (.inr (.inr h)));have D:decide (data≠[])=decide ((data.length:Int)≠0):=by
    cases data with
    |nil=>rfl
    |cons a l=>
     have:((a::l).length:Int)≠0:=by simp only [zal];omega
     simp only [this,ne_eq,not_false_eq_true,decide_true];rfl
   by_cases hw:((decide (head=-1) !=decide (aV=0)) || (decide (data≠[]) && decide ((data.length:Int)≠c.bI)))=true
   ·have u:iL c dJ aj aV head data=(dJ,1):=by simp only [iL,z];rw [if_neg d,if_pos hw]
    rw [u];refine⟨H1,?_,by rw [fP h];exact F,Step.new _ G.1⟩;simp only [H1] at o C;rw [D] at hw;cases y:(decide (head=-1) !=decide (aV=0)) with
    |true=>
     simp only [Int.reduceNeg,Nat.reduceAdd,aO,xq_,hq_,zx,k,j,e,zaf,m,p,v,o,A,aqc,y];rfl
    |false=>
     rw [y,zbI,zah] at hw;have w1:¬(data.length:Int)=0:=of_decide_eq_true hw.1;have K:¬(data.length:Int)=c.bI:=of_decide_eq_true hw.2;simp only [Int.reduceNeg,Nat.reduceAdd,Nat.reduceLeDiff,aO,xq_,hq_,zx,k,j,e,zaf,zam,m,p,v,o,A,aqc,y,L,w1,C,K];rfl
   ·have u:iL c dJ aj aV head data=(mM dJ aj ⟨aV,head,if data=[] then w.data else data⟩,0):=by simp only [iL,z];rw [if_neg d,if_neg hw]
    rw [u];rw [D] at hw;have y:(decide (head=-1) !=decide (aV=0))=false:=by cases h1:(decide (head=-1) !=decide (aV=0)) <;> simp_all
    rw [y,zbI] at hw;let M:Row:=⟨aV,head,if data=[] then w.data else data⟩
    let Q:=H.new (.blk 0 199 M.av);have G2:Good b Q g:=G.new _;obtain⟨r',k1,_,_,k2⟩:=G2.map h (i:=8) rfl;obtain⟨H',E,R,m3,m4⟩:=(k2 hb).1 aj (.agg M.av);refine⟨H',?_,?_,(Step.new _ G.1).trans m3⟩
    ·simp only [H1,Row.av] at o C;simp only [Q,M,Row.av] at k1 E;by_cases hd:data=[]
     ·subst hd;simp only [if_true] at k1 E;have z1:((([]:List Int).length:Nat):Int)=0:=rfl;have z2:(((0:Nat)):Int)=0:=rfl;simp only [Int.reduceLT,Int.reduceNeg,Nat.reduceAdd,aO,xq_,hq_,zx,FX,k,j,e,zaf,m,p,v,o,A,aqc,y,L,z2,Row.av,k1,E]
     ·have w1:¬(data.length:Int)=0:=λh=>hd (zat V);have T:(0:Int)<data.length:=V
      have K:(data.length:Int)=c.bI:=by
       rw [decide_eq_true (show(data.length:Int)≠0 from w1),zaN] at hw;exact Classical.byContradiction λh=>hw (decide_eq_true h)
      simp only [hd,if_false] at k1 E;rw [K] at w1 T;simp only [Int.reduceNeg,Nat.reduceAdd,aO,xq_,hq_,zx,FX,k,j,e,zaf,zam,m,p,v,o,A,aqc,y,L,K,C,w1,T,e5,Row.av,k1,E]
    ·rw [Ip (λr:Row=>AV.agg r.av)] at R;exact R
end
def Yt {c:Cfg}{dJ:Rows}{aj aV head:Int}{data:List Int}(h:(iL c dJ aj aV head data).2≠0):(iL c dJ aj aV head data).1=dJ:=by
 unfold iL at h ⊢;cases d:jC dJ aj with
 |none=>rfl
 |some w=>
  rw [d] at h;simp only at h ⊢;split at h
  ·rename_i b;rw [if_pos b]
  ·rename_i b;rw [if_neg b];split at h
   ·rename_i e;rw [if_pos e]
   ·exact absurd rfl h
section
variable {b:Nat}{H:ah}{g:bD}{q d tt:Nat}{c:Cfg}{me:Int}{h:Home}
def oL.sub {g':bD}(N:oL g q d tt c me h)(hs:sK g g'):oL g' q d tt c me h:=⟨hs _ _ N.1,hs _ _ N.2.1,hs _ _ N.2.2⟩
def LH(G:Good b H g)(N:oL g q d tt c me h)(hd:∀e∈h.dJ,e.2.data.length<1000000000)(aj who id:Int):
  cl 126 [.ref q 0 0,I aj,I who,I id] H=some (.agg (granted h.dJ me aj who id).av,H):=by
 refine dD rfl rfl (anJ _ _ _ _ _ _) ?_ (ny (Xc _));have j:=G.guard.new (.blk 0 112 [zI,zI,zI,zI,zI,zI,zI,zB,zN]);have p:=j.load N.1 (i:=0) (x:=.ref d 0 0) rfl;have u:=aoY j N.2.1 hd aj;have v:=j.new (.blk 0 199 (jq h.dJ aj).av);have w:=v.load N.1 (i:=10) (x:=I me) rfl;have k:(jq h.dJ aj).av[0]?=some (I (jq h.dJ aj).aV):=rfl;have m:(jq h.dJ aj).av[1]?=some (I (jq h.dJ aj).head):=rfl;have o:(jq h.dJ aj).av[2]?=some (dat (jq h.dJ aj).data):=rfl;simp only [Nat.reduceAdd,Nat.reduceLeDiff,aO,xq_,hq_,ag3,p,u,w,k,m,o,rD,jf,fK,HY,granted,Pkt.av]
def lQ(g:bD)(d tt:Nat)(c:Cfg)(h:Home):bD:=upd (upd g d (EP c h.dJ)) tt (iR h.aT)
def oL.ne(N:oL g q d tt c me h):q≠d/\q≠tt/\d≠tt:=by
 refine⟨λe=>?_,λe=>?_,λe=>?_⟩
 ·have i:=N.1;have b:=N.2.1;subst e;rw [i] at b;have:=congrArg List.length (zaX b);simp [ER,EP,Cfg.av] at this
 ·have i:=N.1;have b:=N.2.2;subst e;rw [i] at b;have:=congrArg List.length (zaX b);simp [ER,iR,Cfg.av] at this
 ·have i:=N.2.1;have b:=N.2.2;subst e;rw [i] at b;have:=congrArg List.length (zaX b);simp [EP,iR,Cfg.av] at this
def oL.ajV(N:oL g q d tt c me h)(b:Home):oL (lQ g d tt c b) q d tt c me b:=by
 obtain⟨n1,e,i⟩:=N.ne;exact⟨by unfold lQ;rw [bn e,bn n1];exact N.1,by unfold lQ;rw [bn i,aQ],by unfold lQ;rw [aQ]⟩
def F6(N:oL g q d tt c me h):lQ g d tt c h=g:=by
 obtain⟨n1,b,e⟩:=N.ne;unfold lQ;rw [fP N.2.1,fP N.2.2]
def RQ {g':bD}(h:sK g g')(b:Home):sK (lQ g d tt c b) (lQ g' d tt c b):=(h.both d _).both tt _
def Ac(N:oL g q d tt c me h)(t:Turns):lQ g d tt c { h with aT:=t }=upd g tt (iR t):=by
 unfold lQ;rw [fP N.2.1]
def ab8(G:Good b H g)(hb:H.base<=b)(N:oL g q d tt c me h)(p:Pkt)(hl:p.data.length<1000000000):
  ∃H',cl 170 [.ref q 0 0,.agg p.av] H=some (I (h.unlock c p).2,H')/\Good b H' (lQ g d tt c (h.unlock c p).1)/\Step b H H':=by
 have hb0:H.base<=H.next:=zaz hb G.1
 obtain⟨n1,n2,n3⟩:=N.ne;refine kQ rfl rfl (aot _ _ _ _) ?_;let H1:=H.new (.blk 0 112 p.av);have G1:=G.newObj (ty:=112) (xs:=p.av) (aU p);have S1:sK g (upd g H.next (p.av.map Cell.av)):=(sK.refl g).more (G.isNone (zac _)) _;have N1:=N.sub S1;have l1:=G1.load N1.1 (i:=1) (x:=.ref tt 0 0) rfl;have o1:=Yl G1.guard N1.2.2 p.aj;have p1:=G1.load aQ (i:=1) (x:=I p.src) rfl;have p4:=G1.load aQ (i:=4) (x:=I p.aj) rfl;have p5:=G1.load aQ (i:=5) (x:=I p.ptr) rfl;have p6:=G1.load aQ (i:=6) (x:=I p.aV) rfl;have p7:=G1.load aQ (i:=7) (x:=B p.flag) rfl;have p8:=G1.load aQ (i:=8) (x:=dat p.data) rfl;by_cases ho:h.aT.owner p.aj=p.src;rotate_left
 ·have hp:h.unlock c p=(h,6):=by simp only [Home.unlock];rw [if_pos ho]
  rw [hp,F6 N];refine⟨H1,?_,G1.sub S1,Step.new _ G.1⟩;simp only [Nat.reduceLT,xq_,Lc,aG (aU p),l1,p4,o1,p1,ho,zam];rfl
 ·have l0:=G1.load N1.1 (i:=0) (x:=.ref d 0 0) rfl;let dd:=if p.flag then p.data else [];obtain⟨H2,s1,s2,s3⟩:=apm G1 (by rw [jB];exact hb) N1.2.1 p.aj p.aV p.ptr dd (by simp only [dd];split <;> first|exact hl|exact(by simp));have hd0:dat ([]:List Int)=zN:=by simp [dat,gI]
  have fl:∀k:AV->Option (AV × ah),(if p.flag=true then k (dat p.data) else k zN)=k (dat dd):=λk=>by
   simp only [dd];cases p.flag with
   |true=>rfl
   |false=>simp only [zai,if_false,hd0]
  by_cases hz:(iL c h.dJ p.aj p.aV p.ptr dd).2=0;rotate_left
  ·have hp:h.unlock c p=(h,(iL c h.dJ p.aj p.aV p.ptr dd).2):=by
    simp only [Home.unlock];rw [if_neg (λhn=>hn ho),if_neg hz]
   rw [hp,F6 N];rw [Yt hz,fP N1.2.1] at s2;refine⟨H2,?_,s2.sub S1,(Step.new _ G.1).trans s3⟩;have hz':¬(iL c h.dJ p.aj p.aV p.ptr dd).2=0:=hz;cases hf:p.flag with
   |true=>
    have:dd=p.data:=by simp only [dd,hf,if_true]
    rw [this] at s1 hz' ⊢;rw [hf] at p7;simp only [Nat.reduceLT,xq_,Lc,yG,aG (aU p),l1,p4,o1,p1,ho,zaf,p7,p8,l0,p6,p5,s1,hz',zam]
   |false=>
    have:dd=[]:=by simp only [dd,hf,zai,if_false]
    rw [this,hd0] at s1;rw [this] at hz' ⊢;rw [hf] at p7;simp only [Nat.reduceLT,xq_,Lc,yG,aG (aU p),l1,p4,o1,p1,ho,zaf,p7,p8,l0,p6,p5,s1,hz',zam]
  ·have hp:h.unlock c p=(⟨(iL c h.dJ p.aj p.aV p.ptr dd).1,(h.aT.release p.aj p.src).1⟩,(h.aT.release p.aj p.src).2):=by
    simp only [Home.unlock];rw [if_neg (λhn=>hn ho),if_pos hz]
   rw [hp];have hqn:=G.ne N.2.2;have hdn:=G.ne N.2.1;have hhn:=G.ne N.1;have k1:upd (upd g H.next (p.av.map Cell.av)) d (EP c (iL c h.dJ p.aj p.aV p.ptr dd).1) H.next=some (p.av.map Cell.av):=by rw [bn hdn.symm,aQ]
   have k2:upd (upd g H.next (p.av.map Cell.av)) d (EP c (iL c h.dJ p.aj p.aV p.ptr dd).1) q=some (ER d tt c me):=by rw [bn n1];exact N1.1
   have k3:upd (upd g H.next (p.av.map Cell.av)) d (EP c (iL c h.dJ p.aj p.aV p.ptr dd).1) tt=some (iR h.aT):=by rw [bn n3.symm];exact N1.2.2
   have r1:=s2.load k1 (i:=1) (x:=I p.src) rfl;have r4:=s2.load k1 (i:=4) (x:=I p.aj) rfl;have rl:=s2.load k2 (i:=1) (x:=.ref tt 0 0) rfl;obtain⟨H3,t1,t2,t3⟩:=RH s2 (by rw [s3.base,jB];exact hb) k3 p.aj p.src;refine⟨H3,?_,t2.sub (RQ S1 _),((Step.new _ G.1).trans s3).trans t3⟩;rw [hz] at s1;cases hf:p.flag with
   |true=>
    have:dd=p.data:=by simp only [dd,hf,if_true]
    rw [this] at s1;rw [hf] at p7;simp only [Nat.reduceLT,xq_,Lc,yG,aG (aU p),l1,p4,o1,p1,ho,zaf,p7,p8,l0,p6,p5,s1,rl,r1,r4,t1]
   |false=>
    have:dd=[]:=by simp only [dd,hf,zai,if_false]
    rw [this,hd0] at s1;rw [hf] at p7;simp only [Nat.reduceLT,xq_,Lc,yG,aG (aU p),l1,p4,o1,p1,ho,zaf,p7,p8,l0,p6,p5,s1,rl,r1,r4,t1]
end
section
variable {b:Nat}{H:ah}{g:bD}{q d tt:Nat}{c:Cfg}{me:Int}{h:Home}
abbrev zP9:List AV:=[zI,zI,zI,zI,zI,zI,zI,zB,zN]
def Xd(r:Home × Pkt × Bool × Int):AV:=.tup [.agg r.2.1.av,B r.2.2.1,I r.2.2.2]
def ab9(G:Good b H g)(hb:H.base<=b)(N:oL g q d tt c me h)(hc:c.ok=true)(hw:(h.aT.wait.map (·.1)).Nodup)(hwl:∀aj,(h.aT.ws aj).length<1000000)(hr:∀e∈h.dJ,e.2.data.length<1000000000)(p:Pkt)(hl:p.data.length<1000000000):
  ∃H',cl 129 [.ref q 0 0,.agg p.av] H=some (Xd (h.handle c me p),H')/\Good b H' (lQ g d tt c (h.handle c me p).1)/\Step b H H':=by
 have hb0:H.base<=H.next:=zaz hb G.1
 obtain⟨n1,n2,n3⟩:=N.ne;refine kQ rfl rfl (anM _ _ _ _) ?_;let H1:=H.new (.blk 0 112 p.av);let H2:=H1.new (.blk 0 112 zP9);have Ga:=G.newObj (ty:=112) (xs:=p.av) (aU p);have G2:=Ga.newObj (ty:=112) (xs:=zP9) rfl;let g2:=upd (upd g H.next (p.av.map Cell.av)) (H.next+1) (zP9.map Cell.av);have e12:(H.new (.blk 0 112 p.av)).next=H.next+1:=eX
 have S2:sK g g2:=((sK.refl g).more (G.isNone (zac _)) _).more (G.isNone (za8 _)) _;have N2:=N.sub S2;have st2:Step b H H2:=(Step.new _ G.1).trans (Step.new _ (G.new _).1);have hp1:g2 H.next=some (p.av.map Cell.av):=by simp only [g2];rw [bn (by omega),aQ]
 have hp2:g2 (H.next+1)=some (zP9.map Cell.av):=aQ;have G2':Good b H2 g2:=G2;have p0:=G2'.load hp1 (i:=0) (x:=I p.aS) rfl;have p1:=G2'.load hp1 (i:=1) (x:=I p.src) rfl;have p2:=G2'.load hp1 (i:=2) (x:=I p.dst) rfl;have p3:=G2'.load hp1 (i:=3) (x:=I p.id) rfl;have p4:=G2'.load hp1 (i:=4) (x:=I p.aj) rfl;have pa:=G2'.loads hp1 (i:=0) (n:=9) (xs:=p.av) rfl rfl (by decide);have l10:=G2'.load N2.1 (i:=10) (x:=I me) rfl;have l2:=G2'.load N2.1 (i:=2) (x:=I c.aB) rfl;have l3:=G2'.load N2.1 (i:=3) (x:=I c.aY) rfl;have la:=G2'.loads N2.1 (i:=2) (n:=8) (xs:=c.av) rfl rfl (by decide);have lt:=G2'.load N2.1 (i:=1) (x:=.ref tt 0 0) rfl;have ck:=BL H2 p;have ho:=IW H2.guard c hc p.aj;have ez:bd 112 []=some (.agg zP9):=by simp only [xq_,rD,jf,eu]
 -- the zero packet is laid anew
 have zst:∀{K:ah} {gk:bD},Good b K gk->K.base<=b->gk (H.next+1)=some (zP9.map Cell.av)->∀{y:List AV},y.length=9->y.all AV.aP=true->∃K',st 9 (.ref (H.next+1) 0 0) (.agg y) K=some (bg,K')/\lda 9 (.ref (H.next+1) 0 0) K'=some (.agg y,K')/\Good b K' (upd gk (H.next+1) (y.map Cell.av))/\Step b K K':=by
  intro K gk Gk hk hz y hy ha;obtain⟨K',t1,t2,t3,t4⟩:=Gk.stores hk hz (i:=0) (n:=9) (vs:=y) (by simp) hy ha;have e:qJ (zP9.map Cell.av) 0 y=y.map Cell.av:=by
   unfold qJ;rw [zaV (by simp [hy])];simp
  rw [e] at t2;exact⟨K',t1,t2.loads aQ (i:=0) (n:=9) (xs:=y) (by rw [zaS,zaw (by simp [hy])]) hy (by decide),t2,t3⟩
 obtain⟨Hz,z1,z2,z3,z4⟩:=zst G2' (by simp only [H2,H1,jB];exact hb) hp2 (y:=zP9) rfl rfl;have Sz:∀{gk:bD} {y:List Cell},sK gk (upd gk (H.next+1) y)->True:=λ_=>trivial;have zg:Good b Hz g:=z3.sub λq' cs h=>by
  have hne:q'≠H.next+1:=λe=>by
   have:=G.lt h;omega
  rw [bn hne];exact S2 _ _ h
 simp only [H2,H1] at p0 p1 p2 p3 p4 pa l10 l2 l3 la lt ck ho z1 z2;have bad:∀e:Int,h.handle c me p=(h,.zero,false,e)->∀H',H'=Hz->Good b H' (lQ g d tt c (h.handle c me p).1)/\Step b H H':=λe he H' hH=>by
  rw [he,F6 N,hH];exact⟨zg,st2.trans z4⟩
 by_cases h1:(!(p.ok && decide (p.dst=me) && decide (p.src<c.aB)) || (decide (p.aS≠1) && decide (p.aS≠2)))=true
 ·have hp:h.handle c me p=(h,.zero,false,1):=by simp only [Home.handle];rw [if_pos h1]
  refine⟨Hz,?_,bad 1 hp Hz rfl⟩;rw [hp];cases hok:p.ok with
  |false=>
   rw [hok] at ck;simp only [Nat.reduceLT,Int.reduceEq,xq_,uJ,aG (aU p),pa,ck,zam,ez,z1,z2,Xd,fO]
  |true=>
   rw [hok] at ck h1;by_cases hds:p.dst=me
   ·by_cases hsr:p.src<c.aB
    ·simp only [hds,hsr,decide_true,zcj,zaf,zbI,zah,decide_eq_true_eq] at h1;have k1:=h1.1;have k2:=h1.2;simp only [ne_eq] at k1 k2;simp only [Nat.reduceLT,xq_,uJ,aG (aU p),pa,ck,p2,l10,hds,p1,l2,hsr,zaf,zam,p0,k1,k2,ez,z1,z2,Xd,fO]
    ·simp only [Nat.reduceLT,xq_,uJ,aG (aU p),pa,ck,p2,l10,hds,p1,l2,hsr,zam,ez,z1,z2,Xd,fO]
   ·simp only [Nat.reduceLT,xq_,uJ,aG (aU p),pa,ck,p2,l10,hds,zam,ez,z1,z2,Xd,fO]
 ·have hcond:p.ok=true/\p.dst=me/\p.src<c.aB/\(p.aS=1∨p.aS=2):=by
   simp only [zbk,za4,zc3,decide_eq_false_iff_not,zah,decide_eq_true_eq,not_or,not_and,Classical.not_not] at h1;obtain⟨⟨⟨a1,a2⟩,a3⟩,a4⟩:=h1;refine⟨by simpa using a1,a2,a3,?_⟩;by_cases hk:p.aS=1
   ·exact .inl hk
   ·exact .inr (a4 hk)
  obtain⟨hok,hds,hsr,hkind⟩:=hcond;rw [hok] at ck;have hk12:(p.aS=1/\True)∨(¬p.aS=1/\p.aS=2):=by
   rcases hkind with hk|hk
   ·exact .inl ⟨hk,trivial⟩
   ·exact .inr ⟨by omega,hk⟩
  by_cases h2:c.bf p.aj≠me∨c.aY<=p.aj
  ·have hp:h.handle c me p=(h,.zero,false,3):=by simp only [Home.handle];rw [if_neg h1,if_pos h2]
   refine⟨Hz,?_,bad 3 hp Hz rfl⟩;rw [hp];rcases hk12 with⟨hk,_⟩|⟨hk0,hk⟩
   ·by_cases hh:c.bf p.aj=me
    ·have hl2:c.aY<=p.aj:=h2.resolve_left (λh=>h hh);simp only [Nat.reduceLT,Nat.reduceAdd,xq_,uJ,aG (aU p),pa,ck,p2,l10,hds,p1,l2,hsr,zaf,p0,hk,la,p4,ho,hh,l3,hl2,ez,z1,z2,Xd,fO]
    ·simp only [Nat.reduceLT,xq_,uJ,aG (aU p),pa,ck,p2,l10,hds,p1,l2,hsr,zaf,zam,p0,hk,la,p4,ho,hh,ez,z1,z2,Xd,fO]
   ·by_cases hh:c.bf p.aj=me
    ·have hl2:c.aY<=p.aj:=h2.resolve_left (λh=>h hh);simp only [Nat.reduceLT,Int.reduceEq,Nat.reduceAdd,xq_,uJ,aG (aU p),pa,ck,p2,l10,hds,p1,l2,hsr,zaf,zam,p0,hk,la,p4,ho,hh,l3,hl2,ez,z1,z2,Xd,fO]
    ·simp only [Nat.reduceLT,Int.reduceEq,xq_,uJ,aG (aU p),pa,ck,p2,l10,hds,p1,l2,hsr,zaf,zam,p0,hk,la,p4,ho,hh,ez,z1,z2,Xd,fO]
  ·have hh:c.bf p.aj=me:=Classical.byContradiction λh=>h2 (.inl h);have hl2:¬c.aY<=p.aj:=λh=>h2 (.inr h);rcases hk12 with⟨hk,_⟩|⟨hk0,hk⟩
   ·obtain⟨K1,a1,a2,a3⟩:=aeV G2' (by simp only [H2,H1,jB];exact hb) N2.2.2 hw p.aj p.src p.id (hwl p.aj);have NK:=N2.ajV { h with aT:=(h.aT.ask p.aj p.src p.id).1 };rw [Ac N2] at NK;have hqt:tt≠H.next:=G.ne N.2.2
    have apn:tt≠H.next+1:=by have:=G.lt N.2.2;omega
    have k1:upd g2 tt (iR (h.aT.ask p.aj p.src p.id).1) H.next=some (p.av.map Cell.av):=by rw [bn hqt.symm];exact hp1
    have k2:upd g2 tt (iR (h.aT.ask p.aj p.src p.id).1) (H.next+1)=some (zP9.map Cell.av):=by rw [bn apn.symm];exact hp2
    have hbK:K1.base<=b:=by rw [a3.base];simp only [H2,H1,jB];exact hb
    have fin:∀{K2:ah} {y:List Cell},Good b K2 (upd (upd g2 tt (iR (h.aT.ask p.aj p.src p.id).1)) (H.next+1) y)->Good b K2 (lQ g d tt c { h with aT:=(h.aT.ask p.aj p.src p.id).1 }):=λGk=>Gk.sub (by
     rw [Ac N];refine((S2.both tt _).more (AQ (G.isNone (za8 _)) apn.symm) _))
    have kk:¬((1:Int)=2):=by decide
    simp only [H2,H1] at a1;cases ha:(h.aT.ask p.aj p.src p.id).2 with
    |false=>
     have hp:h.handle c me p=({ h with aT:=(h.aT.ask p.aj p.src p.id).1 },.zero,false,0):=by
      simp only [Home.handle];rw [if_neg h1,if_neg h2,if_pos hk];rw [if_neg (by rw [ha];decide)]
     rw [hp];rw [ha] at a1;obtain⟨K2,y1,y2,y3,y4⟩:=zst a2 hbK k2 (y:=zP9) rfl rfl;refine⟨K2,?_,fin y3,(st2.trans a3).trans y4⟩;simp only [Nat.reduceLT,Nat.reduceAdd,xq_,uJ,aG (aU p),pa,ck,p2,l10,hds,p1,l2,hsr,zaf,zam,p0,hk,la,p4,ho,hh,l3,hl2,lt,p3,a1,ez,y1,y2,Xd,fO]
    |true=>
     have hp:h.handle c me p=({ h with aT:=(h.aT.ask p.aj p.src p.id).1 },granted h.dJ me p.aj p.src p.id,true,0):=by
      simp only [Home.handle];rw [if_neg h1,if_neg h2,if_pos hk];rw [if_pos ha]
     rw [hp];rw [ha] at a1;have q1:=a2.load k1 (i:=1) (x:=I p.src) rfl;have q3:=a2.load k1 (i:=3) (x:=I p.id) rfl;have q4:=a2.load k1 (i:=4) (x:=I p.aj) rfl;have gr:=LH a2 NK hr p.aj p.src p.id;obtain⟨K2,y1,y2,y3,y4⟩:=zst a2 hbK k2 (y:=(granted h.dJ me p.aj p.src p.id).av) (bZ _) (aU _);refine⟨K2,?_,fin y3,(st2.trans a3).trans y4⟩;simp only [Nat.reduceLT,Nat.reduceAdd,xq_,uJ,aG (aU p),pa,ck,p2,l10,hds,p1,l2,hsr,zaf,p0,hk,la,p4,ho,hh,l3,hl2,lt,p3,a1,q1,q3,q4,gr,y1,y2,Xd]
   ·obtain⟨K1,a1,a2,a3⟩:=ab8 G2' (by simp only [H2,H1,jB];exact hb) N2 p hl;have hqt:tt≠H.next:=G.ne N.2.2
    have apn:tt≠H.next+1:=by have:=G.lt N.2.2;omega
    have hqd:d≠H.next:=G.ne N.2.1
    have aty:d≠H.next+1:=by have:=G.lt N.2.1;omega
    have k1:lQ g2 d tt c (h.unlock c p).1 H.next=some (p.av.map Cell.av):=by unfold lQ;rw [bn hqt.symm,bn hqd.symm];exact hp1
    have k2:lQ g2 d tt c (h.unlock c p).1 (H.next+1)=some (zP9.map Cell.av):=by unfold lQ;rw [bn apn.symm,bn aty.symm];exact hp2
    have NK:=N2.ajV (h.unlock c p).1;have hbK:K1.base<=b:=by rw [a3.base];simp only [H2,H1,jB];exact hb
    have fin:∀{K2:ah} {y:List Cell},Good b K2 (upd (lQ g2 d tt c (h.unlock c p).1) (H.next+1) y)->Good b K2 (lQ g d tt c (h.unlock c p).1):=λGk=>Gk.sub (by
     refine((RQ S2 _).more ?_ _);unfold lQ;rw [bn apn.symm,bn aty.symm];exact G.isNone (za8 _))
    have kk:¬((2:Int)=1):=by decide
    simp only [H2,H1] at a1;by_cases hz:(h.unlock c p).2=0
    ·have hp:h.handle c me p=((h.unlock c p).1,⟨8,me,p.src,p.id,p.aj,0,0,false,[]⟩,true,0):=by
      simp only [Home.handle];rw [if_neg h1,if_neg h2,if_neg hk0,if_pos hz]
     rw [hp];rw [hz] at a1;have q1:=a2.load k1 (i:=1) (x:=I p.src) rfl;have q3:=a2.load k1 (i:=3) (x:=I p.id) rfl;have q4:=a2.load k1 (i:=4) (x:=I p.aj) rfl;have q10:=a2.load NK.1 (i:=10) (x:=I me) rfl;have hd0:dat ([]:List Int)=zN:=by simp [dat,gI]
     obtain⟨K2,y1,y2,y3,y4⟩:=zst a2 hbK k2 (y:=(Pkt.mk 8 me p.src p.id p.aj 0 0 false []).av) (bZ _) (aU _);refine⟨K2,?_,fin y3,(st2.trans a3).trans y4⟩;have eb:bd 112 [(0,I 8),(1,I me),(2,I p.src),(3,I p.id),(4,I p.aj)]=some (.agg (Pkt.mk 8 me p.src p.id p.aj 0 0 false []).av):=by
      simp only [xq_,rD,jf,fK,HY,Pkt.av,hd0];rfl
     simp only [Nat.reduceLT,Nat.reduceAdd,xq_,uJ,aG (aU p),pa,ck,p2,l10,hds,p1,l2,hsr,zaf,zam,p0,hk,kk,la,p4,ho,hh,l3,hl2,a1,q10,q1,q3,q4,eb,y1,y2,Xd]
    ·have hp:h.handle c me p=((h.unlock c p).1,.zero,false,(h.unlock c p).2):=by
      simp only [Home.handle];rw [if_neg h1,if_neg h2,if_neg hk0,if_neg hz]
     rw [hp];obtain⟨K2,y1,y2,y3,y4⟩:=zst a2 hbK k2 (y:=zP9) rfl rfl;refine⟨K2,?_,fin y3,(st2.trans a3).trans y4⟩;simp only [Nat.reduceLT,Nat.reduceAdd,xq_,uJ,aG (aU p),pa,ck,p2,l10,hds,p1,l2,hsr,zaf,zam,p0,hk,kk,la,p4,ho,hh,l3,hl2,a1,hz,ez,y1,y2,Xd,fO]
end
def acd(l:List Int):(l.mergeSort λx y=>decide (x<=y))=srt [] l:=by
 have tr:∀a b c:Int,decide (a<=b)=true->decide (b<=c)=true->decide (a<=c)=true:=λa b c d e=>by simp only [decide_eq_true_eq] at*;omega
 have to:∀a b:Int,(decide (a<=b) || decide (b<=a))=true:=λa b=>by simp only [zbk,decide_eq_true_eq];omega
 exact(alY (List.mergeSort_perm l _).symm ((List.pairwise_mergeSort tr to l).imp λh=>of_decide_eq_true h)).symm
def ae4(l:List Int):aag l=dat (srt [] l):=by
 unfold aag;split
 ·rename_i h;subst h;simp [dat,gI,srt,alV]
 ·rename_i h;have g:=(vU l [] List.Pairwise.nil).1;have b:(srt [] l).length=l.length:=g.length_eq;have d:srt [] l≠[]:=λe=>h (by rw [e] at b;exact zat b.symm);rw [xQ d,acd,b]
section
variable {b:Nat}{H:ah}{g:bD}{q d tt:Nat}{c:Cfg}{me:Int}{h:Home}
structure TOk(t:Turns):Prop where
 nd:(t.wait.map (·.1)).Nodup
 key:∀e∈t.wait,0<=e.1/\e.1<1000
 len:t.wait.length<1000
 ws:∀aj,(t.ws aj).length<1000000
def LJ(G:Good b H g){t:Turns}(h:g q=some (iR t))(T:TOk t):cl 123 [.ref q 0 0] H=some (dat (t.ready (srt [] (t.wait.map (·.1)))),H):=by
 obtain⟨r,aes,f1,f2,f3,f4⟩:=G.guard.ajL h (i:=1) rfl;have f4:aes.map (·.1)=t.wait.map (·.1):=by rw [f4];simp
 let H1:=H.guard.new (.blk 0 201 [.mp r]);have k1:cl 164 [.mp r] H.guard=some (.fn (.func 186) [] [.ref H.next 0 0],H1):=by
  refine bC rfl rfl (aom _ _ _ ?_);have eb:gV 201 (.mp r) H.guard=some (.ref H.next 0 0,H1):=rfl;simp only [xq_,ahy,eb]
 have k2:cl 163 [.fn (.func 186) [] [.ref H.next 0 0]] H1=some (dat (srt [] (t.wait.map (·.1))),H1):=by
  refine G9 (p:=C9 Et KY) rfl ?_;have g1:H1.get H.next=.blk 0 201 [.mp r]:=aZ rfl
  have g2:H1.get r=.map .i64 aes:=by rw [<-f3];exact bJ f2
  have hc:(True/\201<iC/\186≠0/\186∈Et/\(aes.map (·.1)).Nodup/\(aes.all λe=>(Lit.int .i64 e.1).wf)=true/\aes.length<=1000000):=by
   refine⟨trivial,by unfold iC;decide,by decide,by simp [Et],by rw [f4];exact T.nd,?_,?_⟩
   ·rw [zaZ];intro e he;have:e.1∈t.wait.map (·.1):=by rw [<-f4];exact zaI.2 ⟨e,he,rfl⟩
    obtain⟨x,hx,hxe⟩:=zaI.1 this;have:=T.key x hx;have m1:IntKind.min .i64=-9223372036854775808:=rfl;have m2:IntKind.max .i64=9223372036854775807:=rfl;simp only [Lit.wf,m1,m2,zah,decide_eq_true_eq];rw [<-hxe];omega
   ·have:=congrArg List.length f4;simp only [zaE] at this;have:=T.len;omega
  simp only [C9,g1,g2];rw [if_pos hc,f4,ae4]
 have hsp:=vU (t.wait.map (·.1)) [] List.Pairwise.nil;obtain⟨K,hK0⟩:∃K,K=srt [] (t.wait.map (·.1)):=⟨_,rfl⟩
 rw [<-hK0] at k2 hsp ⊢;have hK:K.length<1000:=by have:=hsp.1.length_eq;simp only [zaM,zaE] at this;have:=T.len;omega
 have hs:∀H',aN H' (dat K) 1 K.length (K.map I):=λH'=>kY H' K;let p:Int->Bool:=λaj=>!t.owned aj && !(t.ws aj).isEmpty
 let F:Nat->List Int:=λj=>(K.take j).filter p
 have key:∀k j,j+k=K.length->∀(Hi:ah) (o:AV),Own H.next Hi o 1 ((F j).map I)->(F j=[]->o=zN)->Step H.next H.guard Hi->
   ∃y Hz,Fz cl [.ref q 0 0,o,dat K,I K.length,I j] Hi=some (y,Hz)/\Own H.next Hz y 1 ((t.ready K).map I)/\(t.ready K=[]->y=zN):=by
  intro k
  induction k with
  |zero=>
   intro j hj Hi o O z s;have h1:¬(j:Int)<K.length:=by omega
   have:F j=t.ready K:=by
    simp only [F,Turns.ready,p];rw [zaw (by omega)]
   rw [this] at O z;refine⟨o,Hi,?_,O,z⟩;rw [V6];simp only [xq_,h1]
  |succ k ih=>
   intro j hj Hi o O z s;have h1:(j:Int)<K.length:=by omega
   have h6:(j:Int)+1=((j+1:Nat):Int):=by omega
   have h7:=wrap_i64 (a:=((j+1:Nat):Int)) (by omega) (by omega);have sb:Hi.base=H.next:=s.base
   have sn:H.next<=Hi.next:=s.next
   obtain⟨e,he⟩:∃e,K[j]?=some e:=⟨_,zab (by omega)⟩
   have s1:=(hs Hi).ix (k:=.i64) (i:=(j:Int)) (by omega) h1;rw [zar] at s1;have s2:=(hs Hi).ld (i:=j) (by omega);rw [zaH,he] at s2;simp only [zak] at s2;have Gi:Good b Hi g:=G.guard.ext s.next s.low
   have o1:=yL Gi h e;have w1:=xZ Gi h e;have hFs:F (j+1)=F j++if p e=true then [e] else []:=by
    simp only [F,zcz,he,zcT,zcq]
    congr 1
    cases hp:p e <;> simp [hp]
   have hm:(F j).length<=j:=zaz (zcv _ _) (by rw [zau];omega);rw [V6];cases hp:p e with
   |true=>
    rw [hp,if_pos rfl] at hFs;have ho:t.owned e=false:=by simp only [p,zah,za4] at hp;exact hp.1
    have hw:(0:Int)<(t.ws e).length:=by
     simp only [p,zah,za4] at hp;cases hz:t.ws e with
     |nil=>rw [hz] at hp;simp at hp
     |cons a l=>simp only [zal];omega
    obtain⟨o',H2,t1,t2,t3⟩:=(O.new (.blk 0 3 [I e])).step (n:=(F j).length) (k:=1) (e:=3) (by_:=8) (y:=.sl Hi.next 0 0 1 1 1 true) (new:=[I e]) (by simp only [eX];omega) (by simp only [jB];omega) (by decide) (by simp) (kN rfl) rfl (by unfold most;omega) (by unfold most;omega);obtain⟨y,Hz,r1,r2⟩:=ih (j+1) (by omega) H2 o' (by rw [hFs,zbi];exact t2) (λhz=>by rw [hFs] at hz;simp at hz) ((s.trans (Step.new _ sn)).trans t3);refine⟨y,Hz,?_,r2⟩;rw [ho] at o1;have eb:∀H,bs 22 1 [(0,I e)] H=some (.sl H.next 0 0 1 1 1 true,H.new (.blk 0 3 [I e])):=λH=>(QB (by decide)).trans (kZ rfl rfl rfl);simp only [xq_,h1,s1,s2,o1,w1,hw,zam,eb,t1,Bz,cZ,h6,h7];exact r1
   |false=>
    rw [hp,if_neg (by simp),zbm] at hFs;obtain⟨y,Hz,r1,r2⟩:=ih (j+1) (by omega) Hi o (by rw [hFs];exact O) (by rw [hFs];exact z) s;refine⟨y,Hz,?_,r2⟩;cases ho:t.owned e with
    |true=>
     rw [ho] at o1;simp only [xq_,h1,s1,s2,o1,zaf,Bz,cZ,h6,h7];exact r1
    |false=>
     rw [ho] at o1;have hw:¬(0:Int)<(t.ws e).length:=by
      simp only [p,ho,zam,zaN,Bool.not_eq_false'] at hp;rw [List.isEmpty_iff] at hp;rw [hp];decide
     simp only [xq_,h1,s1,s2,o1,w1,hw,zam,Bz,cZ,h6,h7];exact r1
 obtain⟨y,Hz,r1,r2,r3⟩:=key K.length 0 (by omega) H1 zN (.inl ⟨rfl,rfl⟩) (λ_=>rfl) (Step.new _ (zac _));refine jD rfl rfl (anD _ _ _ (r:=(y,Hz)) ?_) ?_
 ·have e2:=(hs H1).lnS;simp only [H1] at k1 k2 e2 r1;simp only [xq_,ag1,f1,k1,k2,e2];exact r1
 ·by_cases hz:t.ready K=[]
  ·rw [r3 hz,hz];simp only [dat,gI];exact jo
  ·rw [xQ hz];exact DC r2 (by decide) (by simp) (λy hy=>yI (d:=7) _ y hy _ _) (λe=>hz (zat e))
end
def Off(S:Nat->Prop)(g g':bD):Prop:=∀q,¬S q->g' q=g q
def Off.refl(S:Nat->Prop)(g:bD):Off S g g:=λ_ _=>rfl
def Off.trans {S:Nat->Prop}{g g' b:bD}(h:Off S g g')(e:Off S g' b):Off S g b:=λq d=>(e q d).trans (h q d)
def Off.upd {S:Nat->Prop}{g:bD}{q:Nat}{cs:List Cell}(h:S q):Off S g (upd g q cs):=λx b=>by
 rw [bn];intro e;subst e;exact b h
def Off.mono {S T:Nat->Prop}{g g':bD}(h:Off S g g')(hs:∀q,S q->T q):Off T g g':=λq b=>h q λd=>b (hs q d)
def PN(P:Nat->Nat->Nat)(n:Nat)(q:Nat):Prop:=∃i s,i<n/\s<4/\q=P i s
def Tc(p:Port):Nat->List Pkt
 |0=>p.rq
 |1=>p.rin
 |2=>p.an
 |_=>p.ain
def PO(c:Cfg):Nat->Int
 |0=>c.out
 |1=>c.inn
 |2=>c.out
 |_=>1
def oIx(req:Bool):Nat:=if req then 0 else 2
def iIx(req:Bool):Nat:=if req then 1 else 3
def gX {g:bD}{a:Nat->Nat}{c:Cfg}{p:Port}(h:wO g a c p):∀{s:Nat},s<4->g (a s)=some (oz (Tc p s) (PO c s)):=λ{s} hs=>by
 obtain⟨b,d,e,i⟩:=h
 match s,hs with
 |0,_=>exact b
 |1,_=>exact d
 |2,_=>exact e
 |3,_=>exact i
def BM {g:bD}{a:Nat->Nat}{c:Cfg}{p:Port}(h:∀s,s<4->g (a s)=some (oz (Tc p s) (PO c s))):wO g a c p:=
 ⟨h 0 Z,h 1 Z,h 2 Z,h 3 Z⟩
def BN(p:Port)(req:Bool):Tc p (oIx req)=p.sort req:=by cases req <;> rfl
def Jg(p:Port)(req:Bool):Tc p (iIx req)=p.qo req:=by cases req <;> rfl
def tq(c:Cfg)(req:Bool):PO c (oIx req)=c.out:=by cases req <;> rfl
def uS(req:Bool):oIx req<4:=by cases req <;> decide
def tu(req:Bool):iIx req<4:=by cases req <;> decide
def Ad(p:Port)(req:Bool)(l:List Pkt)(s:Nat)(hs:s<4):Tc (p.kP req l) s=if s=oIx req then l else Tc p s:=by
 match s,hs with
 |0,_=>cases req <;> rfl
 |1,_=>cases req <;> rfl
 |2,_=>cases req <;> rfl
 |3,_=>cases req <;> rfl
def DL(p:Port)(req:Bool)(l:List Pkt)(s:Nat)(hs:s<4):Tc (p.lG req l) s=if s=iIx req then l else Tc p s:=by
 match s,hs with
 |0,_=>cases req <;> rfl
 |1,_=>cases req <;> rfl
 |2,_=>cases req <;> rfl
 |3,_=>cases req <;> rfl
section
variable {b:Nat}{H:ah}{g:bD}{f:Nat}{P:Nat->Nat->Nat}{c:Cfg}{fab:Fab}
def iG.sub {g':bD}(F:iG g f P c fab)(hs:sK g g'):iG g' f P c fab:=
 ⟨hs _ _ F.1,λi p e=>by obtain⟨a,b,c,d⟩:=F.2.1 i p e;exact⟨hs _ _ a,hs _ _ b,hs _ _ c,hs _ _ d⟩,F.2.2⟩
def iG.fne(F:iG g f P c fab){i s:Nat}(hi:i<fab.l.length)(hs:s<4):f≠P i s:=λe=>by
 have d:=F.1;have b:=gX (F.port hi) hs;rw [<-e,d] at b;have:=congrArg List.length (zaX b);simp [aeG,oz] at this
def iG.fill(F:iG g f P c fab)(J:UD P fab.l.length){i s:Nat}(hi:i<fab.l.length)(hs:s<4){p':Port}{l:List Pkt}(q:∀t,t<4->Tc p' t=if t=s then l else Tc (fab.port i) t):
  iG (upd g (P i s) (oz l (PO c s))) f P c (fab.put i p'):=by
 have m:(fab.put i p').l.length=fab.l.length:=by simp [Fab.put]
 refine⟨by rw [m,bn (F.fne hi hs)];exact F.1,λj p h=>?_,F.2.2⟩;simp only [Fab.put,zar] at h;have o:j<fab.l.length:=by have:=(zae.1 h).1;simpa using this
 by_cases b:i=j
 ·subst b;rw [zbd hi] at h;cases h;refine BM λt k=>?_;rw [q t k];by_cases d:t=s
  ·subst d;rw [if_pos rfl,aQ]
  ·rw [if_neg d,bn (λe=>d (J _ _ _ _ hi hi k hs e).2)];exact gX (F.port hi) k
 ·rw [zbl b] at h;refine BM λt k=>?_;rw [bn (λe=>b (J _ _ _ _ o hi k hs e).1.symm)];have:=gX (F.2.1 j p h) k;exact this
def BO {i:Int}(hi:fab.is i=true):∃n:Nat,i=n/\n<fab.l.length:=by
 simp only [Fab.is,zah,decide_eq_true_eq] at hi;exact⟨i.toNat,V,V⟩
def ae5(a:Nat->Nat)(req:Bool):List AV:=[.ref (a (oIx req)) 0 0,.ref (a (iIx req)) 0 0]
def F9(H:ah)(hb:H.base<=H.next)(a:Nat->Nat)(req:Bool):∃H',cl 49 [.agg (pF a),B req] H=some (.agg (ae5 a req),H')/\Made H H' qE:=by
 refine kQ rfl rfl (arv _ _ _ _) ?_;have b:(pF a).all AV.aP=true:=rfl;cases req with
 |true=>
  refine⟨(H.new (.blk 0 101 (pF a))).new (.blk 0 99 (ae5 a true)),?_,((Made.refl hb).new _).new _⟩;simp only [Nat.reduceLT,Nat.reduceAdd,aO,xq_,hq_,ai2,pF,ae5,oIx,iIx,aG,hb]
 |false=>
  refine⟨(H.new (.blk 0 101 (pF a))).new (.blk 0 99 (ae5 a false)),?_,((Made.refl hb).new _).new _⟩;simp only [Nat.reduceLT,Nat.reduceAdd,aO,xq_,hq_,ai2,pF,ae5,oIx,iIx,aG,hb]
def BP(G:Good b H g)(F:iG g f P c fab){i:Nat}(hi:i<fab.l.length):∃x r gg o,ld (.ref f 0 0) H=some (x,H)/\ix 4 x (I i) H=some (.ref r gg o,H)/\lda 4 (.ref r gg o) H=some (.agg (pF (P i)),H):=by
 obtain⟨x,e,h⟩:=G.seq F.1 (i:=0) rfl;obtain⟨r,gg,o,j,_,d⟩:=h.elemAt Z (pY P _) hi;have k:(List.range fab.l.length)[i]?=some i:=zbz hi;have:=vO (enc:=λi=>pF (P i)) (m:=4) (λ_=>rfl) (List.range fab.l.length) i i k;rw [this] at d;exact⟨x,r,gg,o,e,j .i64,d⟩
structure FOk(c:Cfg)(fab:Fab):Prop where
 ok:c.ok=true
 len:fab.l.length<1000
 box:∀p∈fab.l,∀s,s<4->((Tc p s).length:Int)<=PO c s
 dat:∀p∈fab.l,∀s,s<4->∀q∈Tc p s,q.data.length<1000000000
def LK {c:Cfg}(h:c.ok=true)(s:Nat):0<=PO c s/\PO c s<1000:=by
 have B:=uK h;have:=B.out;have:=B.inn;unfold PO;split <;> omega
def FOk.small {c:Cfg}{fab:Fab}(K:FOk c fab){p:Port}(b:p∈fab.l){s:Nat}(hs:s<4):(Tc p s).length<1000:=by
 have:=K.box p b s hs;have:=(LK K.ok s).2;omega
def Fab.vZ {fab:Fab}{i:Nat}(hi:i<fab.l.length):fab.port i∈fab.l:=by
 unfold Fab.port;rw [zar,zas,zab hi];exact zc4 hi
def ajW(G:Good b H g)(hb:H.base<=b)(F:iG g f P c fab)(K:FOk c fab)(i:Int)(req:Bool):∃H',cl 79 [.ref f 0 0,I i,B req] H=some (I (fab.roomOf i req),H')/\Good b H' g/\Step b H H':=by
 refine kQ rfl rfl (arX _ _ _ _ _) ?_;have e:=BK G F K.len i;cases hi:fab.is i with
 |false=>
  rw [hi] at e;refine⟨H,?_,G,Step.refl _ _⟩;have:fab.roomOf i req=0:=by simp [Fab.roomOf,hi]
  simp only [xq_,ajd,e,zam,this]
 |true=>
  rw [hi] at e;obtain⟨n,rfl,h⟩:=BO hi;obtain⟨x,r,gg,o,q,u,v⟩:=BP G F h;obtain⟨H1,w,d⟩:=F9 H (zaz hb G.1) (P n) req;have m:Good b H1 g:=G.ext d.next d.same
  have j:=gX (F.port h) (uS req);have p:=WA m j (LK K.ok _).1 (LK K.ok _).2 (K.small (Fab.vZ h) (uS req));rw [BN,tq,<-F.2.2.1] at p;refine⟨H1,?_,m,⟨d.base,d.next,λr y=>d.same r (zay y G.1)⟩⟩;have k:fab.roomOf n req=fab.out-((fab.port n).sort req).length:=by unfold Fab.roomOf;rw [if_pos hi]
  have z:(ae5 (P n) req)[0]?=some (.ref (P n (oIx req)) 0 0):=rfl;simp only [xq_,ajd,e,zaf,q,u,v,w,z,p,k]
def ajX(G:Good b H g)(hb:H.base<=b)(F:iG g f P c fab)(J:UD P fab.l.length)(K:FOk c fab)(p:Pkt)(hl:p.data.length<1000000000):
  ∃H' g',cl 81 [.ref f 0 0,.agg p.av] H=some (I (fab.send p).2,H')/\Good b H' g'/\iG g' f P c (fab.send p).1/\Off (PN P fab.l.length) g g'/\Step b H H':=by
 have hb0:H.base<=H.next:=zaz hb G.1
 let H1:=H.new (.blk 0 112 p.av);have G1:Good b H1 g:=G.new _;have ck:=BL H1 p;have e1:=BK G1 F K.len p.src;have e2:=BK G1 F K.len p.dst;by_cases hbad:(!p.ok || !fab.is p.src || !fab.is p.dst)=true
 ·have hp:fab.send p=(fab,1):=by simp only [Fab.send];rw [if_pos hbad]
  rw [hp];refine⟨H1,g,bC rfl rfl (amV _ _ _ _ ?_),G1,F,Off.refl _ _,Step.new _ G.1⟩;simp only [H1] at ck e1 e2 ⊢;have f1:p.av[1]?=some (I p.src):=rfl;have f2:p.av[2]?=some (I p.dst):=rfl;cases hok:p.ok with
  |false=>
   rw [hok] at ck;simp only [Nat.reduceLT,Int.reduceEq,xq_,hq_,aaM,aG (aU p),ck,zam]
  |true=>
   rw [hok] at ck hbad;cases hs:fab.is p.src with
   |false=>
    rw [hs] at e1;simp only [Nat.reduceLT,xq_,hq_,aaM,aG (aU p),ck,zaf,f1,e1,zam]
   |true=>
    rw [hs] at e1 hbad;have hd:fab.is p.dst=false:=by simpa using hbad
    rw [hd] at e2;simp only [Nat.reduceLT,xq_,hq_,aaM,aG (aU p),ck,zaf,f1,f2,e1,e2,zam]
 ·have hcond:p.ok=true/\fab.is p.src=true/\fab.is p.dst=true:=by
   cases h1:p.ok <;> cases h2:fab.is p.src <;> cases h3:fab.is p.dst <;> simp_all
  obtain⟨hok,hs,hd⟩:=hcond;rw [hok] at ck;rw [hs] at e1;rw [hd] at e2;obtain⟨n,hsn,hn⟩:=BO hs;obtain⟨x,r,gg,o,h1,h2,h3⟩:=BP G1 F hn;let req:=qU p.aS;have rq:=LC H1.guard p.aS;obtain⟨K1',s1,s2⟩:=F9 H1.guard (zac _) (P n) req;obtain⟨K1,s1,s2⟩:=drawn s1 s2;have G2:Good b K1 g:=G1.ext s2.next s2.same
  have hbx:=gX (F.port hn) (uS req);have hbK:K1.base<=b:=by rw [s2.base];exact hb
  obtain⟨H',q1,q2,q3⟩:=ajl G2 hbK hbx (LK K.ok _).1 (LK K.ok _).2 (K.small (Fab.vZ hn) (uS req)) p hl;have g1:K1.get H.next=.blk 0 112 p.av:=by rw [s2.same _ (by simp only [H1,eX];omega)];exact aZ rfl
  have l9:lda 9 (.ref H.next 0 0) K1=some (.agg p.av,K1):=by
   rw [iH (off:=0) (n:=9) g1 (by rw [bZ];exact zac _),zaS,QE]
  rw [BN,tq] at q1;have hout:fab.out=c.out:=F.2.2.1;have hle:=K.box _ (Fab.vZ hn) _ (uS req);rw [BN,tq] at hle;have f0:p.av[0]?=some (I p.aS):=rfl;have f1:p.av[1]?=some (I p.src):=rfl;have f2:p.av[2]?=some (I p.dst):=rfl;have l0:(ae5 (P n) req)[0]?=some (.ref (P n (oIx req)) 0 0):=rfl;have run:∀v,cl 128 [.ref (P n (oIx req)) 0 0,.agg p.av] K1=some (v,H')->cl 81 [.ref f 0 0,.agg p.av] H=some (v,H'):=λv q1=>by
   refine bC rfl rfl (amV _ _ _ _ ?_);rw [hsn] at f1 e1;simp only [H1,req] at ck e1 e2 rq h1 h2 h3 s1 l0 q1;simp only [Nat.reduceLT,xq_,hq_,aaM,aG (aU p),ck,zaf,f0,f1,f2,e1,e2,h1,h2,h3,rq,s1,l0,l9,q1]
  have st0:Step b H K1:=(Step.new _ G.1).trans ⟨s2.base,s2.next,λr hr=>s2.same r (zay hr G1.1)⟩;have hset:Off (PN P fab.l.length) g (upd g (P n (oIx req)) (oz (if PO c (oIx req)=((Tc (fab.port n) (oIx req)).length:Int) then Tc (fab.port n) (oIx req) else Tc (fab.port n) (oIx req)++[p]) (PO c (oIx req)))):=Off.upd ⟨n,oIx req,hn,uS req,rfl⟩;rw [BN,tq] at q2 hset;by_cases hfull:c.out=(((fab.port n).sort req).length:Int)
  ·have hp:fab.send p=(fab,5):=by
    simp only [Fab.send];rw [if_neg hbad,hsn,hout,if_pos (Int.le_of_eq hfull)]
   rw [if_pos hfull] at q1 q2 hset;rw [fP (by rw [gX (F.port hn) (uS req),BN,tq])] at q2;rw [hp];exact⟨H',g,run _ q1,q2,F,Off.refl _ _,st0.trans q3⟩
  ·have hp:fab.send p=(fab.put n ((fab.port n).kP req ((fab.port n).sort req++[p])),0):=by
    simp only [Fab.send];rw [if_neg hbad,hsn,hout,if_neg (λh=>hfull (Int.le_antisymm h hle))]
   rw [if_neg hfull] at q1 q2 hset;rw [hp];refine⟨H',_,run _ q1,q2,?_,hset,st0.trans q3⟩;have:=F.fill J hn (uS req) (p':=(fab.port n).kP req ((fab.port n).sort req++[p])) (l:=(fab.port n).sort req++[p]) (Ad _ _ _);rw [tq] at this;exact this
end
section
variable {b:Nat}{H:ah}{g:bD}{f:Nat}{P:Nat->Nat->Nat}{c:Cfg}{fab:Fab}
def iG.auz(G:Good b H g)(F:iG g f P c fab){q:Nat}(h:PN P fab.l.length q):q<H.next:=by
 obtain⟨i,s,hi,hs,rfl⟩:=h;exact G.lt (gX (F.port hi) hs)
def iG.UU(G:Good b H g)(F:iG g f P c fab):¬PN P fab.l.length H.next:=λh=>Nat.lt_irrefl _ (F.auz G h)
def ajY {K:ah}{g:bD}{r:Nat}{ys:List AV}(k:Good b K g)(hk:K.base<=b)(m:g r=some (ys.map Cell.av))(j:ys.length=9){y:List AV}(d:y.length=9)(ha:y.all AV.aP=true):
  ∃K',st 9 (.ref r 0 0) (.agg y) K=some (bg,K')/\lda 9 (.ref r 0 0) K'=some (.agg y,K')/\Good b K' (upd g r (y.map Cell.av))/\Step b K K':=by
 obtain⟨K',o,h,p,q⟩:=k.stores hk m (i:=0) (n:=9) (vs:=y) (by simp [j]) d ha;have e:qJ (ys.map Cell.av) 0 y=y.map Cell.av:=by
  unfold qJ;rw [zaV (by simp [d,j])];simp
 rw [e] at h;exact⟨K',o,h.loads aQ (i:=0) (n:=9) (xs:=y) (by rw [zaS,zaw (by simp [d])]) d Z,h,p⟩
def ace(G:Good b H g)(hb:H.base<=b)(F:iG g f P c fab)(J:UD P fab.l.length)(K:FOk c fab)(i:Int)(req:Bool):
  ∃H' g',cl 113 [.ref f 0 0,I i,B req] H=some (iM (fab.take i req).2,H')/\Good b H' g'/\iG g' f P c (fab.take i req).1/\Off (PN P fab.l.length) g g'/\Step b H H':=by
 have hb0:H.base<=H.next:=zaz hb G.1
 have G1:=G.newObj (ty:=112) (xs:=zP9) rfl;have S1:sK g (upd g H.next (zP9.map Cell.av)):=(sK.refl g).more (G.isNone (zac _)) _;have F1:=F.sub S1;have e1:=BK G1 F1 K.len i;have ez:bd 112 []=some (.agg zP9):=by simp only [xq_,rD,jf,eu]
 cases hi:fab.is i with
 |false=>
  rw [hi] at e1;have hp:fab.take i req=(fab,none):=by simp [Fab.take,hi]
  rw [hp];obtain⟨K',t1,t2,t3,t4⟩:=ajY G1 (by rw [jB];exact hb) aQ rfl (y:=zP9) rfl rfl;refine⟨K',g,bC rfl rfl (agX _ _ _ _ _ ?_),t3.sub (by rw [qw];exact S1),F,Off.refl _ _,(Step.new _ G.1).trans t4⟩;simp only [xq_,aaU,e1,zam,ez,t1,t2,iM,za5,zaK,fO]
 |true=>
  rw [hi] at e1;obtain⟨n,rfl,hn⟩:=BO hi;obtain⟨x,r,gg,o,h1,h2,h3⟩:=BP G1 F1 hn;obtain⟨K1,s1,s2⟩:=F9 (H.new (.blk 0 112 zP9)) (by rw [jB,eX];omega) (P n) req;have G2:Good b K1 _:=G1.ext s2.next s2.same
  have hbx:=gX (F1.port hn) (tu req);have hbK:K1.base<=b:=by rw [s2.base,jB];exact hb
  have st1:Step b H K1:=(Step.new _ G.1).trans ⟨s2.base,s2.next,λr hr=>s2.same r (zay hr G1.1)⟩;obtain⟨K2,q1,q2,q3⟩:=abm G2 hbK hbx (K.small (Fab.vZ hn) (tu req)) (K.dat _ (Fab.vZ hn) _ (tu req));have hpn:P n (iIx req)≠H.next:=λe=>F.UU G ⟨n,iIx req,hn,tu req,e.symm⟩
  rw [Jg] at q1 q2;obtain⟨K3,t1,t2,t3,t4⟩:=ajY q2 (by rw [q3.base];exact hbK) (r:=H.next) (ys:=zP9) (by rw [bn hpn.symm,aQ]) rfl (y:=(((fab.port n).qo req).head?.getD .zero).av) (bZ _) (aU _);have l1:(ae5 (P n) req)[1]?=some (.ref (P n (iIx req)) 0 0):=rfl;have run:cl 113 [.ref f 0 0,I n,B req] H=some (iM ((fab.port n).qo req).head?,K3):=by
   refine bC rfl rfl (agX _ _ _ _ _ ?_);simp only [iM] at q1;simp only [xq_,aaU,e1,zaf,h1,h2,h3,s1,l1,q1,t1,t2,iM]
  have hsub:sK (upd g (P n (iIx req)) (oz ((fab.port n).qo req).tail (PO c (iIx req)))) (upd (upd (upd g H.next (zP9.map Cell.av)) (P n (iIx req)) (oz ((fab.port n).qo req).tail (PO c (iIx req)))) H.next ((((fab.port n).qo req).head?.getD .zero).av.map Cell.av)):=
   (S1.both _ _).more (AQ (G.isNone (zac _)) hpn.symm) _
  have G3:=t3.sub hsub;cases hz:(fab.port n).qo req with
  |nil=>
   have hp:fab.take n req=(fab,none):=by simp [Fab.take,hi,hz]
   rw [hz] at run G3;rw [hp];rw [List.tail_nil,fP (by rw [gX (F.port hn) (tu req),Jg,hz])] at G3;exact⟨K3,g,run,G3,F,Off.refl _ _,(st1.trans q3).trans t4⟩
  |cons p l=>
   have hp:fab.take n req=(fab.put n ((fab.port n).lG req l),some p):=by simp [Fab.take,hi,hz]
   rw [hz] at run G3;rw [hp];refine⟨K3,_,run,G3,?_,Off.upd ⟨n,iIx req,hn,tu req,rfl⟩,(st1.trans q3).trans t4⟩;exact F.fill J hn (tu req) (p':=(fab.port n).lG req l) (l:=l) (DL _ _ _)
def DN(G:Good b H g)(hb:H.base<=b)(F:iG g f P c fab)(J:UD P fab.l.length)(K:FOk c fab)(i:Int):
  ∃H' g',cl 82 [.ref f 0 0,I i] H=some (iM (fab.take i true).2,H')/\Good b H' g'/\iG g' f P c (fab.take i true).1/\Off (PN P fab.l.length) g g'/\Step b H H':=by
 have G1:=G.newObj (ty:=112) (xs:=zP9) rfl;have S1:sK g (upd g H.next (zP9.map Cell.av)):=(sK.refl g).more (G.isNone (zac _)) _;have F1:=F.sub S1;obtain⟨K1,g',q1,q2,q3,q4,q5⟩:=ace G1 (by rw [jB];exact hb) F1 J K i true;have hg':g' H.next=some (zP9.map Cell.av):=by rw [q4 _ (F.UU G),aQ]
 obtain⟨K2,t1,t2,t3,t4⟩:=ajY q2 (by rw [q5.base,jB];exact hb) hg' rfl (y:=((fab.take i true).2.getD .zero).av) (bZ _) (aU _);let g2:bD:=λq=>if q=H.next then none else g' q
 have hn:g H.next=none:=G.isNone (zac _)
 have F2:iG g2 f P c (fab.take i true).1:=by
  have ne:∀q cs,g' q=some cs->q≠H.next->g2 q=some cs:=λq cs h1 h2=>by simp only [g2];rw [if_neg h2];exact h1
  have hlen:(fab.take i true).1.l.length=fab.l.length:=by
   unfold Fab.take;split
   ·split
    ·rfl
    ·simp [Fab.put]
   ·rfl
  have fn:f≠H.next:=G.ne F.1
  refine⟨ne _ _ q3.1 fn,λj p hj=>BM λs hs=>ne _ _ (gX (q3.2.1 j p hj) hs) λe=>?_,q3.2.2⟩;have hjl:j<fab.l.length:=by rw [<-hlen];exact(zae.1 hj).1
  exact F.UU G ⟨j,s,hjl,hs,e.symm⟩
 refine⟨K2,g2,bC rfl rfl (ar0 _ _ _ _ ?_),t3.sub λq cs h=>?_,F2,λq hq=>?_,((Step.new _ G.1).trans q5).trans t4⟩
 ·simp only [iM] at q1;simp only [xq_,amW,q1,t1,t2,iM]
 ·simp only [g2] at h;split at h
  ·cases h
  ·rename_i hne;rw [bn hne];exact h
 ·simp only [g2];split
  ·rename_i e;rw [e,hn]
  ·rename_i hne;rw [q4 q hq,bn hne]
def OY(G:Good b H g)(hb:H.base<=b)(F:iG g f P c fab)(J:UD P fab.l.length)(K:FOk c fab)(i:Int):
  ∃H' g',cl 72 [.ref f 0 0,I i] H=some (iM (fab.take i false).2,H')/\Good b H' g'/\iG g' f P c (fab.take i false).1/\Off (PN P fab.l.length) g g'/\Step b H H':=by
 have G1:=G.newObj (ty:=112) (xs:=zP9) rfl;have S1:sK g (upd g H.next (zP9.map Cell.av)):=(sK.refl g).more (G.isNone (zac _)) _;have F1:=F.sub S1;obtain⟨K1,g',q1,q2,q3,q4,q5⟩:=ace G1 (by rw [jB];exact hb) F1 J K i false;have hg':g' H.next=some (zP9.map Cell.av):=by rw [q4 _ (F.UU G),aQ]
 obtain⟨K2,t1,t2,t3,t4⟩:=ajY q2 (by rw [q5.base,jB];exact hb) hg' rfl (y:=((fab.take i false).2.getD .zero).av) (bZ _) (aU _);let g2:bD:=λq=>if q=H.next then none else g' q
 have hn:g H.next=none:=G.isNone (zac _)
 have F2:iG g2 f P c (fab.take i false).1:=by
  have ne:∀q cs,g' q=some cs->q≠H.next->g2 q=some cs:=λq cs h1 h2=>by simp only [g2];rw [if_neg h2];exact h1
  have hlen:(fab.take i false).1.l.length=fab.l.length:=by
   unfold Fab.take;split
   ·split
    ·rfl
    ·simp [Fab.put]
   ·rfl
  have fn:f≠H.next:=G.ne F.1
  refine⟨ne _ _ q3.1 fn,λj p hj=>BM λs hs=>ne _ _ (gX (q3.2.1 j p hj) hs) λe=>?_,q3.2.2⟩;have hjl:j<fab.l.length:=by rw [<-hlen];exact(zae.1 hj).1
  exact F.UU G ⟨j,s,hjl,hs,e.symm⟩
 refine⟨K2,g2,bC rfl rfl (arO _ _ _ _ ?_),t3.sub λq cs h=>?_,F2,λq hq=>?_,((Step.new _ G.1).trans q5).trans t4⟩
 ·simp only [iM] at q1;simp only [xq_,amR,q1,t1,t2,iM]
 ·simp only [g2] at h;split at h
  ·cases h
  ·rename_i hne;rw [bn hne];exact h
 ·simp only [g2];split
  ·rename_i e;rw [e,hn]
  ·rename_i hne;rw [q4 q hq,bn hne]
end
section
variable {b:Nat}{H:ah}{g:bD}{q:Nat}{l:List Pkt}{room:Int}
def Yu(G:Good b H g)(hb:H.base<=b)(h:g q=some (oz l room))(h3:l.length<1000)(hd:∀p∈l,p.data.length<1000000000)(k:Nat)(hk:k<l.length):
  ∃v H',cl 53 [.ref q 0 0,I k] H=some (v,H')/\Good b H' (upd g q (oz (l.eraseIdx k) room))/\Step b H H':=by
 obtain⟨p,hp⟩:∃p,l[k]?=some p:=⟨_,zab hk⟩
 have hq:=G.lt h;have G1:=G.newObj (ty:=112) (xs:=zP9) rfl;have h1:upd g H.next (zP9.map Cell.av) q=some (oz l room):=by rw [bn (by omega)];exact h
 have e1:=abn G1 h1 h3 hd k;rw [if_neg (by omega),zar,hp] at e1;simp only [iM,zav,zaL] at e1;have hb0:H.base<=H.next:=zaz hb G.1
 have G2:=G1.newObj (ty:=112) (xs:=p.av) (aU _);have h2:upd (upd g H.next (zP9.map Cell.av)) (H.next+1) (p.av.map Cell.av) q=some (oz l room):=by rw [bn (by omega)];exact h1
 obtain⟨x,x',K1,K2,s1,s2,s3,s4,s5⟩:=WB G2 (by rw [jB,jB];omega) h2 h3 hk;have G3:Good b K2 _:=s4;let gz:=upd (upd (upd g H.next (zP9.map Cell.av)) (H.next+1) (p.av.map Cell.av)) q (oz (l.eraseIdx k) room);have q2:gz (H.next+1)=some (p.av.map Cell.av):=by simp only [gz];rw [bn (by omega),aQ]
 have q1:gz H.next=some (zP9.map Cell.av):=by simp only [gz];rw [bn (by omega),bn (by omega),aQ]
 have l2:=G3.loads q2 (i:=0) (n:=9) (xs:=p.av) rfl rfl (by decide);obtain⟨K3,t1,t2,t3,t4⟩:=G3.stores (by rw [s5.base,jB,jB];exact hb) q1 (i:=0) (n:=9) (vs:=p.av) (by decide) rfl (aU _);have l3:=t2.loads aQ (i:=0) (n:=9) (xs:=p.av) rfl rfl (by decide);have w1:=wrap_i64 (a:=(k:Int)+1) (by omega) (by omega);have n1:g H.next=none:=G.isNone (zac _)
 have n2:g (H.next+1)=none:=G.isNone (by omega);refine⟨.tup [.agg p.av,B true],K3,bC rfl rfl (arA _ _ _ _ ?_),t2.sub (((((sK.refl g).more n1 _).more n2 _).both q _).more (AQ n1 (by omega)) _),(((Step.new _ G.1).trans (Step.new _ (G.new _).1)).trans s5).trans t3⟩;simp only [Nat.reduceAdd,aO,xq_,hq_,amB,e1,Ut,hb0,cZ,w1,s1,s2,s3,l2,t1,l3]
end
def wP {β:Type}{r gg o:Nat}{H H':ah}{k:Option β}(h:H'.get r=H.get r):ck (bT (.ref r gg o)) H H' k=k:=Yh λx b=>by
 simp only [bT,zaa] at b;subst b;exact h
section
variable {β:Type}{r gg o:Nat}{X X':ah}{a a' c c':gu}{k:Option β}
def ckN(h:r<X.next):ck (bT (.ref r gg o)) (X.new a) (X.new a') k=k:=wP (by rw [bJ h,bJ h])
def ckM(h:r=X.next)(h':X'.next=X.next):ck (bT (.ref r gg o)) ((X.new a).new c) ((X'.new a).new c') k=k:=wP (by rw [bJ (H:=X'.new a) (by rw [eX,h'];omega),bJ (H:=X.new a) (by rw [eX];omega),aZ (h.trans h'.symm),aZ h])
end
def apo {β:Type}{l:List Int}{H H':ah}{k:Option β}:ck (bT (dat l)) H H' k=k:=Yh λx b=>by
 by_cases h:l=[]
 ·subst h;simp [dat,gI,bT] at b
 ·rw [xQ h] at b;simp [bT] at b
def mF:bM.zero.av=[zI,zI,zI,zI,zI,zI,zN,zI,zI]:=by simp [bM.zero,bM.av,dat,gI]
def acf(p:bM){d:Nat}:∀x∈p.av,Frz (d+2) x:=λx b=>by
 simp only [bM.av,zaj,zaA,or_false] at b;rcases b with rfl|rfl|rfl|rfl|rfl|rfl|rfl|rfl|rfl <;> first|exact iD|exact vS
def acg(H:ah)(k:Int):cl 162 [I k] H=some (I (AU k),H):=by
 refine bC rfl rfl (aol _ _ _ ?_);unfold AU;by_cases b:k=1
 ·simp only [Int.reduceEq,xq_,Ey,b]
 ·by_cases d:k=2
  ·simp only [Int.reduceEq,xq_,Ey,d]
  ·by_cases e:k=3
   ·simp only [Int.reduceEq,xq_,Ey,e]
   ·by_cases g:k=4
    ·simp only [Int.reduceEq,xq_,Ey,g]
    ·by_cases h:k=5
     ·simp only [Int.reduceEq,xq_,Ey,h]
     ·by_cases i:k=6
      ·simp only [Int.reduceEq,xq_,Ey,i]
      ·simp only [xq_,Ey,b,d,e,g,h,i]
def ae6(H:ah)(aS aj id:Int):cl 134 [I aS,I aj,I id] H=some (.agg (bM.begin aS aj id).av,H):=by
 refine dD rfl rfl (anS _ _ _ _ _) ?_ (ny (acf _));have b:dat ([]:List Int)=zN:=by simp [dat,gI]
 simp only [Int.reduceNeg,Nat.reduceAdd,Nat.reduceLeDiff,aO,xq_,hq_,aha,XP,jf,fK,alg,bM.begin,bM.av,b]
def UW(H:ah)(d:bM)(p:Pkt):cl 155 [.agg d.av,.agg p.av] H=some (B (d.fits p),H):=by
 refine dD rfl rfl (aod _ _ _ _) ?_ iD;have b:=λH=>acg H d.step;have e:=λH=>RI H (AU d.step);unfold bM.fits;by_cases g:CZ (AU d.step)=0
 ·simp only [Nat.reduceLT,xq_,hq_,KZ,aG,bM.av,Pkt.av,b,e,g,zaf,zaP,not_true_eq_false]
 ·by_cases h:p.aS=CZ (AU d.step)
  ·by_cases i:p.id=d.id
   ·by_cases j:p.aj=d.aj
    ·simp only [Nat.reduceLT,xq_,hq_,KZ,aG,bM.av,Pkt.av,b,e,g,h,i,j,zam]
    ·simp only [Nat.reduceLT,xq_,hq_,KZ,aG,bM.av,Pkt.av,b,e,g,h,i,j,zam,zb8]
   ·simp only [Nat.reduceLT,xq_,hq_,KZ,aG,bM.av,Pkt.av,b,e,g,h,i,zam,zaP,zb8]
  ·simp only [Nat.reduceLT,xq_,hq_,KZ,aG,bM.av,Pkt.av,b,e,g,h,zam,zaP,zb8]
def apq(H:ah)(d:bM)(bF home:Int)(q:d.data.length<1000000000):cl 122 [.agg d.av,I bF,I home] H=some (.agg (d.ask bF home).av,H):=by
 refine dD rfl rfl (anC _ _ _ _ _) ?_ (ny (Xc _));have g:=λH k=>acg H k;have e:dat ([]:List Int)=zN:=by simp [dat,gI]
 have u:=λH=>kC H d.data q;have v:=λH=>(kY H d.data).lnS;have b:∀k,bd 112 [(0,I k),(1,I bF),(2,I home),(3,I d.id),(4,I d.aj)]=some (.agg [I k,I bF,I home,I d.id,I d.aj,zI,zI,zB,zN]):=λk=>by
  simp only [xq_,rD,jf,fK,HY];rfl
 have w:bd 112 []=some (.agg zP9):=by simp only [xq_,rD,jf,eu]
 unfold bM.ask;by_cases h:d.step=1
 ·simp only [Nat.reduceLT,Int.reduceEq,Nat.reduceAdd,Nat.reduceLeDiff,aO,xq_,hq_,Ew,aG,bM.av,g,h,b,AU,Pkt.av,e]
 ·by_cases i:d.step=2
  ·simp only [Nat.reduceLT,Int.reduceEq,Nat.reduceAdd,Nat.reduceLeDiff,aO,xq_,hq_,Ew,pX,aG,bM.av,g,i,b,AU,Pkt.av,e]
  ·by_cases j:d.step=3
   ·simp only [Nat.reduceLT,Int.reduceEq,Nat.reduceAdd,Nat.reduceLeDiff,aO,xq_,hq_,Ew,pX,aG,bM.av,g,j,b,AU,Pkt.av,e]
   ·by_cases m:d.step=4
    ·simp only [Nat.reduceLT,Int.reduceEq,Nat.reduceAdd,Nat.reduceLeDiff,aO,xq_,hq_,Ew,pX,aG,bM.av,g,m,b,AU,Pkt.av,e,ckN]
    ·by_cases o:d.step=5
     ·simp only [Nat.reduceLT,Int.reduceEq,Nat.reduceAdd,Nat.reduceLeDiff,aO,xq_,hq_,Ew,pX,aG,bM.av,g,o,b,AU,Pkt.av,e,ckN]
     ·by_cases p:d.step=6
      ·have y:decide (d.data≠[])=decide ((0:Int)<d.data.length):=by
        cases d.data with
        |nil=>rfl
        |cons a l=>
         have:(0:Int)<((a::l).length:Int):=by simp only [zal];omega
         simp only [this,ne_eq,decide_true];rfl
       simp only [Nat.reduceLT,Int.reduceEq,Nat.reduceAdd,Nat.reduceLeDiff,aO,xq_,hq_,Ew,pX,aG,bM.av,g,p,b,AU,Pkt.av,u,v,y,ckN,apo]
      ·simp only [Nat.reduceLT,Nat.reduceAdd,Nat.reduceLeDiff,aO,xq_,hq_,Ew,aG,bM.av,g,h,i,j,m,o,p,b,w,fO]
abbrev Lcl:=Nat->Option (List AV)
def iO(ls:Lcl)(r:Nat)(xs:List AV):Lcl:=λx=>if x=r then some xs else ls x
def noL:Lcl:=λ_=>none
def lay(g:bD)(ls:Lcl):bD:=λq=>match ls q with
 |some xs=>some (xs.map Cell.av)
 |none=>g q
structure Loc(b:Nat)(K:ah)(g:bD)(ls:Lcl):Prop where
 good:Good b K (lay g ls)
 free:∀r,ls r≠none->g r=none
section
variable {b:Nat}{K:ah}{g:bD}{ls:Lcl}{r q:Nat}{xs:List AV}
def ak:iO ls r xs r=some xs:=by simp [iO]
def aC {x:Nat}(h:x≠r):iO ls r xs x=ls x:=by simp [iO,h]
def ach:lay g (iO ls r xs)=upd (lay g ls) r (xs.map Cell.av):=by
 funext x
 simp only [lay,iO,upd];by_cases h:x=r
 ·simp [h]
 ·simp [h]
def OZ {cs:List Cell}(h:ls q=none):lay (upd g q cs) ls=upd (lay g ls) q cs:=by
 funext x
 simp only [lay,upd];by_cases b:x=q
 ·subst b;simp [h]
 ·simp [b]
def Loc.of(G:Good b K g):Loc b K g noL:=⟨G,λ_ h=>absurd rfl h⟩
def Loc.out(L:Loc b K g ls):Good b K g:=L.good.sub λq cs h=>by
 unfold lay;cases d:ls q with
 |none=>exact h
 |some xs=>rw [L.free q (by rw [d];simp)] at h;cases h
def Loc.new(L:Loc b K g ls)(o:gu):Loc b (K.new o) g ls:=⟨L.good.new o,L.free⟩
def Loc.newL(L:Loc b K g ls){ty:TypeId}(hc:xs.all AV.aP=true)(hr:r=K.next)(ht:ty<iC:=by decide):Loc b (K.new (.blk 0 ty xs)) g (iO ls r xs):=by
 subst hr;refine⟨by rw [ach];exact L.good.newObj hc ht,λx hx=>?_⟩;by_cases h:x=K.next
 ·rw [h];exact L.out.isNone (zac _)
 ·rw [aC h] at hx;exact L.free x hx
def qK(h:ls r=some xs):lay g ls r=some (xs.map Cell.av):=by simp [lay,h]
def Loc.at_(L:Loc b K g ls){cs:List Cell}(h:g q=some cs):lay g ls q=some cs/\ls q=none:=by
 cases d:ls q with
 |none=>exact⟨by simp [lay,d,h],rfl⟩
 |some xs=>rw [L.free q (by rw [d];simp)] at h;cases h
def Loc.obj(L:Loc b K g ls){cs:List Cell}(h:g q=some cs):lay g ls q=some cs:=(L.at_ h).1
def Loc.ld(L:Loc b K g ls)(h:ls r=some xs){i:Nat}{v:AV}(hi:xs[i]?=some v):ld (.ref r 0 i) K=some (v,K):=
 L.good.load (qK h) (i:=i) (x:=v) (by rw [zaH,hi];rfl)
def Loc.lda(L:Loc b K g ls)(h:ls r=some xs){i n:Nat}{ys:List AV}(hi:(xs.drop i).take n=ys)(d:ys.length=n)(e:0<n):lda n (.ref r 0 i) K=some (.agg ys,K):=
 L.good.loads (qK h) (i:=i) (n:=n) (xs:=ys) (by rw [<-hi,zcJ,zdM]) d e
def Yv {i:Nat}{vs:List AV}:qJ (xs.map Cell.av) i vs=(aO xs i vs).map Cell.av:=by
 simp only [qJ,aO,zbi,zcJ,zdM]
def Loc.ajV(L:Loc b K g ls)(h:ls r=some xs){K':ah}{ys:List AV}(G:Good b K' (upd (lay g ls) r (ys.map Cell.av))):Loc b K' g (iO ls r ys):=by
 refine⟨by rw [ach];exact G,λx d=>?_⟩;by_cases e:x=r
 ·subst e;exact L.free x (by rw [h];simp)
 ·rw [aC e] at d;exact L.free x d
def Loc.st(L:Loc b K g ls)(hb:K.base<=b)(h:ls r=some xs){i:Nat}{v:AV}(hi:i<xs.length)(hv:One v):∃K',st 1 (.ref r 0 i) v K=some (bg,K')/\Loc b K' g (iO ls r (xs.set i v))/\Step b K K':=by
 obtain⟨K',e,d,j,k⟩:=L.good.store hb (qK h) (i:=i) (by simpa using hi) hv;rw [<-List.map_set] at d;exact⟨K',e,L.ajV h d,j⟩
def Loc.sta(L:Loc b K g ls)(hb:K.base<=b)(h:ls r=some xs){i n:Nat}{vs:List AV}(hi:i+n<=xs.length)(e:vs.length=n)(hv:vs.all AV.aP=true):∃K',Proofs.YtljogojaihgdlaaGreat.st n (.ref r 0 i) (.agg vs) K=some (bg,K')/\Loc b K' g (iO ls r (aO xs i vs))/\Step b K K':=by
 obtain⟨K',j,d,k,m⟩:=L.good.stores hb (qK h) (i:=i) (by simpa using hi) e hv;rw [Yv] at d;exact⟨K',j,L.ajV h d,k⟩
def aci {vs:List AV}(h:vs.length=xs.length):aO xs 0 vs=vs:=by
 unfold aO;rw [zdG,zaM,za6,zaV V,zbm]
def Loc.whole(L:Loc b K g ls)(hb:K.base<=b)(h:ls r=some xs){n:Nat}{vs:List AV}(o:xs.length=n)(e:vs.length=n)(j:0<n)(hv:vs.all AV.aP=true):∃K',Proofs.YtljogojaihgdlaaGreat.st n (.ref r 0 0) (.agg vs) K=some (bg,K')/\Proofs.YtljogojaihgdlaaGreat.lda n (.ref r 0 0) K'=some (.agg vs,K')/\Loc b K' g (iO ls r vs)/\Step b K K':=by
 obtain⟨K',k,d,m⟩:=L.sta hb h (i:=0) (n:=n) (vs:=vs) V e hv;rw [aci V] at d;exact⟨K',k,d.lda ak (i:=0) (n:=n) (by rw [zaS,zaw V]) e j,d,m⟩
def Loc.call(L:Loc b K g ls){d cs:List Cell}(k:g q=some d){K':ah}(G:Good b K' (upd (lay g ls) q cs)):Loc b K' (upd g q cs) ls:=by
 obtain⟨m,i⟩:=L.at_ k;refine⟨by rw [OZ i];exact G,λr j=>?_⟩;have h:r≠q:=λe=>by subst e;exact j i
 rw [bn h];exact L.free r j
def Good.exact {b:Nat}{K:ah}{g:bD}{r:Nat}{xs:List AV}(G:Good b K g)(h:g r=some (xs.map Cell.av)):∃ty,K.get r=.blk 0 ty xs/\ty<iC:=by
 obtain⟨_,τ,m⟩:=G;have R:=m r _ h;obtain⟨ty,d,e,j,p,o⟩:=R.blk;have:d=xs:=by
  apply zbb
  intro i;rcases zaQ i xs.length with hi|hi
  ·have k:d[i]?=some (d[i]'(by simp at j;omega)):=zab _;have:=o i (.av xs[i]) _ (by simp [hi]) k;simp only [CR] at this;rw [k,this];simp [hi]
  ·rw [zaG (by simp at j;omega),zaG hi]
 subst this;exact⟨ty,e,R.tyl _ _ _ e⟩
def Xe {b:Nat}{K K':ah}{g g':bD}{r:Nat}{xs:List AV}(G:Good b K g)(G':Good b K' g')(hk:Keeps K K')(h:g r=some (xs.map Cell.av))(j:g' r=some (xs.map Cell.av)):K'.get r=K.get r:=by
 have m:=G.lt h;obtain⟨u,d,v⟩:=G.exact h;obtain⟨o,e,p⟩:=G'.exact j;obtain⟨w,q,y,i,k⟩:=hk.types r m _ _ _ d;rw [e] at i;cases i;rcases k with rfl|k
 ·rw [d,e]
 ·exact absurd k (Nat.not_le.2 p)
end
structure COk(ca:Cache):Prop where
 len:ca.l.length<1000000
 sets:1<=ca.sets
 clk:0<=ca.dh/\ca.dh<1000000000
 dat:∀e∈ca.l,e.data.length<1000000000
 used:∀e∈ca.l,0<=e.used/\e.used<1000000000
def BQ {b:Nat}{H:ah}{g:bD}{q:Nat}(G:Good b H g)(hb:H.base<=b){c:Cache}(h:g q=some (dG c))(C:COk c)(e:Ent)(d:e.data.length<1000000000):
  ∃H',cl 121 [.ref q 0 0,.agg e.av] H=some (I (c.put e).2,H')/\Good b H' (upd g q (dG (c.put e).1))/\Step b H H':=
 WW G hb h C.len C.sets C.clk e d (qO _ e.data)
def uU(n:Nxt):AV:=.tup [.agg n.2.1.av,B n.2.2]
abbrev zD9:List AV:=[zI,zI,zI,zI,zI,zI,zN,zI,zI]
def EF:dat ([]:List Int)=zN:=by simp [dat,gI]
section
variable {b:Nat}{H:ah}{g:bD}{q:Nat}{ca:Cache}
def ajZ(G:Good b H g)(hb:H.base<=b)(h:g q=some (dG ca))(C:COk ca)(d:bM)(bF:Int)(p:Pkt)(hp:p.data.length<1000000000):
  ∃H',cl 157 [.agg d.av,I bF,.ref q 0 0,.agg p.av] H=some (uU ((ca.put ⟨d.head,-1,d.aj,0,false,p.data⟩).1,{ d with step:=6,aV:=1,head:=bF,data:=if p.flag then p.data else [] },true),H')/\
   Good b H' (upd g q (dG (ca.put ⟨d.head,-1,d.aj,0,false,p.data⟩).1))/\Step b H H':=by
 refine kQ rfl rfl (aog _ _ _ _ _ _) ?_;have L1:=(Loc.of G).newL (ty:=44) (xs:=d.av) (r:=H.next) (bG d) rfl;have L2:=L1.newL (ty:=112) (xs:=p.av) (r:=H.next+1) (aU p) (by rw [eX]);have L3:=L2.newL (ty:=44) (xs:=zD9) (r:=H.next+1+1) rfl (by rw [eX,eX]);have s3:Step b H _:=((Step.new (.blk 0 44 d.av) G.1).trans (Step.new (.blk 0 112 p.av) L1.good.1)).trans (Step.new (.blk 0 44 zD9) L2.good.1);have d1:=L3.ld (r:=H.next) (i:=1) (v:=I d.aj) (by first|exact ak|(rw [aC (by omega)];first|exact ak|(rw [aC (by omega)];first|exact ak|(rw [aC (by omega)];first|exact ak|(rw [aC (by omega)];first|exact ak|(rw [aC (by omega)];exact ak)))))) rfl;have d5:=L3.ld (r:=H.next) (i:=5) (v:=I d.head) (by first|exact ak|(rw [aC (by omega)];first|exact ak|(rw [aC (by omega)];first|exact ak|(rw [aC (by omega)];first|exact ak|(rw [aC (by omega)];first|exact ak|(rw [aC (by omega)];exact ak)))))) rfl;have p8:=L3.ld (r:=H.next+1) (i:=8) (v:=dat p.data) (by first|exact ak|(rw [aC (by omega)];first|exact ak|(rw [aC (by omega)];first|exact ak|(rw [aC (by omega)];first|exact ak|(rw [aC (by omega)];first|exact ak|(rw [aC (by omega)];exact ak)))))) rfl;have e1:=λH=>abX H d.aj d.head (-1) false hp (qO H p.data);obtain⟨K1,a1,a2,a3⟩:=BQ L3.good (by rw [s3.base];exact hb) (L3.obj h) C ⟨d.head,-1,d.aj,0,false,p.data⟩ hp;have M1:=L3.call h a2;have t1:=s3.trans a3;obtain⟨K2,u2,M2,w2⟩:=M1.st (by rw [t1.base];exact hb) (r:=H.next) (by first|exact ak|(rw [aC (by omega)];first|exact ak|(rw [aC (by omega)];first|exact ak|(rw [aC (by omega)];first|exact ak|(rw [aC (by omega)];first|exact ak|(rw [aC (by omega)];exact ak)))))) (i:=3) (v:=I 6) (by simp [bM.av]) dO;have t2:=t1.trans w2;obtain⟨K3,u3,M3,w3⟩:=M2.st (by rw [t2.base];exact hb) (r:=H.next) (by first|exact ak|(rw [aC (by omega)];first|exact ak|(rw [aC (by omega)];first|exact ak|(rw [aC (by omega)];first|exact ak|(rw [aC (by omega)];first|exact ak|(rw [aC (by omega)];exact ak)))))) (i:=4) (v:=I 1) (by simp [bM.av]) dO;have t3:=t2.trans w3;obtain⟨K4,u4,M4,w4⟩:=M3.st (by rw [t3.base];exact hb) (r:=H.next) (by first|exact ak|(rw [aC (by omega)];first|exact ak|(rw [aC (by omega)];first|exact ak|(rw [aC (by omega)];first|exact ak|(rw [aC (by omega)];first|exact ak|(rw [aC (by omega)];exact ak)))))) (i:=5) (v:=I bF) (by simp [bM.av]) dO;have t4:=t3.trans w4;obtain⟨K5,u5,M5,w5⟩:=M4.st (by rw [t4.base];exact hb) (r:=H.next) (by first|exact ak|(rw [aC (by omega)];first|exact ak|(rw [aC (by omega)];first|exact ak|(rw [aC (by omega)];first|exact ak|(rw [aC (by omega)];first|exact ak|(rw [aC (by omega)];exact ak)))))) (i:=6) (v:=zN) (by simp [bM.av]) qx;have t5:=t4.trans w5
 have p7:=M5.ld (r:=H.next+1) (i:=7) (v:=B p.flag) (by first|exact ak|(rw [aC (by omega)];first|exact ak|(rw [aC (by omega)];first|exact ak|(rw [aC (by omega)];first|exact ak|(rw [aC (by omega)];first|exact ak|(rw [aC (by omega)];exact ak)))))) rfl;cases hf:p.flag with
 |true=>
  rw [hf] at p7;have q8:=M5.ld (r:=H.next+1) (i:=8) (v:=dat p.data) (by first|exact ak|(rw [aC (by omega)];first|exact ak|(rw [aC (by omega)];first|exact ak|(rw [aC (by omega)];first|exact ak|(rw [aC (by omega)];first|exact ak|(rw [aC (by omega)];exact ak)))))) rfl;have e2:=λH=>kC H p.data hp;obtain⟨K6,u6,M6,w6⟩:=M5.st (by rw [t5.base];exact hb) (r:=H.next) (by first|exact ak|(rw [aC (by omega)];first|exact ak|(rw [aC (by omega)];first|exact ak|(rw [aC (by omega)];first|exact ak|(rw [aC (by omega)];first|exact ak|(rw [aC (by omega)];exact ak)))))) (i:=6) (v:=dat p.data) (by simp [bM.av]) tV;have t6:=t5.trans w6;have f1:=M6.lda (r:=H.next) (by first|exact ak|(rw [aC (by omega)];first|exact ak|(rw [aC (by omega)];first|exact ak|(rw [aC (by omega)];first|exact ak|(rw [aC (by omega)];first|exact ak|(rw [aC (by omega)];exact ak)))))) (i:=0) (n:=9) (ys:=(bM.mk d.aS d.aj d.id 6 1 bF p.data d.next d.told).av) rfl rfl (by decide);obtain⟨K7,u7,v7,M7,w7⟩:=M6.whole (by rw [t6.base];exact hb) (r:=H.next+1+1) (by first|exact ak|(rw [aC (by omega)];first|exact ak|(rw [aC (by omega)];first|exact ak|(rw [aC (by omega)];first|exact ak|(rw [aC (by omega)];first|exact ak|(rw [aC (by omega)];exact ak)))))) (n:=9) (vs:=(bM.mk d.aS d.aj d.id 6 1 bF p.data d.next d.told).av) rfl rfl (by decide) (bG _);refine⟨K7,?_,M7.out,t6.trans w7⟩;simp only [Nat.reduceLT,Int.reduceNeg,xq_,aa6,FQ,aG (bG d),aG (aU p),d1,d5,p8,e1,a1,u2,u3,u4,u5,p7,q8,e2,u6,f1,u7,v7,uU]
 |false=>
  rw [hf] at p7;have f1:=M5.lda (r:=H.next) (by first|exact ak|(rw [aC (by omega)];first|exact ak|(rw [aC (by omega)];first|exact ak|(rw [aC (by omega)];first|exact ak|(rw [aC (by omega)];first|exact ak|(rw [aC (by omega)];exact ak)))))) (i:=0) (n:=9) (ys:=(bM.mk d.aS d.aj d.id 6 1 bF [] d.next d.told).av) (by simp only [bM.av,EF];rfl) rfl (by decide);obtain⟨K7,u7,v7,M7,w7⟩:=M5.whole (by rw [t5.base];exact hb) (r:=H.next+1+1) (by first|exact ak|(rw [aC (by omega)];first|exact ak|(rw [aC (by omega)];first|exact ak|(rw [aC (by omega)];first|exact ak|(rw [aC (by omega)];first|exact ak|(rw [aC (by omega)];exact ak)))))) (n:=9) (vs:=(bM.mk d.aS d.aj d.id 6 1 bF [] d.next d.told).av) rfl rfl (by decide) (bG _);refine⟨K7,?_,M7.out,t5.trans w7⟩;simp only [Nat.reduceLT,Int.reduceNeg,xq_,aa6,FQ,aG (bG d),aG (aU p),d1,d5,p8,e1,a1,u2,u3,u4,u5,p7,f1,u7,v7,uU]
def wo(d:bM)(bF:Int)(c:Cache)(p:Pkt):Nxt:=
 if p.aV≠0 then(c,{ d with aV:=p.aV,head:=p.ptr,told:=p.ptr,data:=p.data,step:=2 },true)
 else((c.put ⟨-1,-1,d.aj,0,false,p.data⟩).1,{ d with told:=p.ptr,step:=6,aV:=1,head:=bF,data:=[] },true)
def acj(G:Good b H g)(hb:H.base<=b)(h:g q=some (dG ca))(C:COk ca)(d:bM)(bF:Int)(p:Pkt)(hp:p.data.length<1000000000):
  ∃H',cl 156 [.agg d.av,I bF,.ref q 0 0,.agg p.av] H=some (uU (wo d bF ca p),H')/\Good b H' (upd g q (dG (wo d bF ca p).1))/\Step b H H':=by
 have hb0:H.base<=H.next:=zaz hb G.1
 have e2:=λH=>kC H p.data hp;refine kQ rfl rfl (aof _ _ _ _ _ _) ?_;by_cases hs:p.aV=0;rotate_left
 ·have hm:wo d bF ca p=(ca,{ d with aV:=p.aV,head:=p.ptr,told:=p.ptr,data:=p.data,step:=2 },true):=by simp only [wo];rw [if_pos hs]
  rw [hm];refine⟨((H.new (.blk 0 44 (bM.mk d.aS d.aj d.id 2 p.aV p.ptr p.data d.next p.ptr).av)).new (.blk 0 112 p.av)).new (.blk 0 44 (bM.mk d.aS d.aj d.id 2 p.aV p.ptr p.data d.next p.ptr).av),?_,by rw [fP h];exact((G.new _).new _).new _,((Step.new _ G.1).trans (Step.new _ (G.new _).1)).trans (Step.new _ ((G.new _).new _).1)⟩;simp only [Nat.reduceLT,Int.reduceNeg,Nat.reduceAdd,Nat.reduceLeDiff,aO,xq_,hq_,aa5,aG,bM.av,Pkt.av,e2,hb0,ckM,hs,zam,uU]
 ·have hm:wo d bF ca p=((ca.put ⟨-1,-1,d.aj,0,false,p.data⟩).1,{ d with told:=p.ptr,step:=6,aV:=1,head:=bF,data:=[] },true):=by simp only [wo];rw [if_neg (λh=>h hs)]
  rw [hm];let d2:bM:=bM.mk d.aS d.aj d.id d.step p.aV p.ptr p.data d.next p.ptr
  have L1:=(Loc.of G).newL (ty:=44) (xs:=d2.av) (r:=H.next) (bG d2) rfl;have L2:=L1.newL (ty:=112) (xs:=p.av) (r:=H.next+1) (aU p) (by rw [eX]);have L3:=L2.newL (ty:=44) (xs:=zD9) (r:=H.next+1+1) rfl (by rw [eX,eX]);have s3:Step b H _:=((Step.new (.blk 0 44 d2.av) G.1).trans (Step.new (.blk 0 112 p.av) L1.good.1)).trans (Step.new (.blk 0 44 zD9) L2.good.1);have e1:=λH=>abX H d.aj (-1) (-1) false hp (qO H p.data);obtain⟨K1,a1,a2,a3⟩:=BQ L3.good (by rw [s3.base];exact hb) (L3.obj h) C ⟨-1,-1,d.aj,0,false,p.data⟩ hp;have M1:=L3.call h a2;have t1:=s3.trans a3;obtain⟨K2,u2,M2,w2⟩:=M1.st (by rw [t1.base];exact hb) (r:=H.next) (by first|exact ak|(rw [aC (by omega)];first|exact ak|(rw [aC (by omega)];first|exact ak|(rw [aC (by omega)];first|exact ak|(rw [aC (by omega)];first|exact ak|(rw [aC (by omega)];exact ak)))))) (i:=3) (v:=I 6) (by simp [bM.av]) dO;have t2:=t1.trans w2;obtain⟨K3,u3,M3,w3⟩:=M2.st (by rw [t2.base];exact hb) (r:=H.next) (by first|exact ak|(rw [aC (by omega)];first|exact ak|(rw [aC (by omega)];first|exact ak|(rw [aC (by omega)];first|exact ak|(rw [aC (by omega)];first|exact ak|(rw [aC (by omega)];exact ak)))))) (i:=4) (v:=I 1) (by simp [bM.av]) dO;have t3:=t2.trans w3;obtain⟨K4,u4,M4,w4⟩:=M3.st (by rw [t3.base];exact hb) (r:=H.next) (by first|exact ak|(rw [aC (by omega)];first|exact ak|(rw [aC (by omega)];first|exact ak|(rw [aC (by omega)];first|exact ak|(rw [aC (by omega)];first|exact ak|(rw [aC (by omega)];exact ak)))))) (i:=5) (v:=I bF) (by simp [bM.av]) dO;have t4:=t3.trans w4;obtain⟨K5,u5,M5,w5⟩:=M4.st (by rw [t4.base];exact hb) (r:=H.next) (by first|exact ak|(rw [aC (by omega)];first|exact ak|(rw [aC (by omega)];first|exact ak|(rw [aC (by omega)];first|exact ak|(rw [aC (by omega)];first|exact ak|(rw [aC (by omega)];exact ak)))))) (i:=6) (v:=zN) (by simp [bM.av]) qx;have t5:=t4.trans w5;have f1:=M5.lda (r:=H.next) (by first|exact ak|(rw [aC (by omega)];first|exact ak|(rw [aC (by omega)];first|exact ak|(rw [aC (by omega)];first|exact ak|(rw [aC (by omega)];first|exact ak|(rw [aC (by omega)];exact ak)))))) (i:=0) (n:=9) (ys:=(bM.mk d.aS d.aj d.id 6 1 bF [] d.next p.ptr).av) (by simp only [bM.av,EF];rfl) rfl (by decide);obtain⟨K7,u7,v7,M7,w7⟩:=M5.whole (by rw [t5.base];exact hb) (r:=H.next+1+1) (by first|exact ak|(rw [aC (by omega)];first|exact ak|(rw [aC (by omega)];first|exact ak|(rw [aC (by omega)];first|exact ak|(rw [aC (by omega)];first|exact ak|(rw [aC (by omega)];exact ak)))))) (n:=9) (vs:=(bM.mk d.aS d.aj d.id 6 1 bF [] d.next p.ptr).av) rfl rfl (by decide) (bG _);refine⟨K7,?_,M7.out,t5.trans w7⟩;simp only [d2,bM.av,Pkt.av,hs,EF] at a1 f1 u7 v7;simp only [Nat.reduceLT,Int.reduceNeg,Nat.reduceAdd,Nat.reduceLeDiff,aO,xq_,hq_,aa5,aG,bM.av,Pkt.av,e2,hb0,ckM,hs,zaf,e1,a1,u2,u3,u4,u5,f1,u7,v7,uU,EF]
def wu(G:Good b H g)(d:bM)(p:Pkt):∃ls:Lcl,Loc b (((H.new (.blk 0 44 d.av)).new (.blk 0 112 p.av)).new (.blk 0 44 zD9)) g ls/\ls H.next=some d.av/\ls (H.next+1)=some p.av/\ls (H.next+1+1)=some zD9/\
  Step b H (((H.new (.blk 0 44 d.av)).new (.blk 0 112 p.av)).new (.blk 0 44 zD9)):=by
 have L1:=(Loc.of G).newL (ty:=44) (xs:=d.av) (r:=H.next) (bG d) rfl;have L2:=L1.newL (ty:=112) (xs:=p.av) (r:=H.next+1) (aU p) (by rw [eX]);have L3:=L2.newL (ty:=44) (xs:=zD9) (r:=H.next+1+1) rfl (by rw [eX,eX]);exact⟨_,L3,(by first|exact ak|(rw [aC (by omega)];first|exact ak|(rw [aC (by omega)];first|exact ak|(rw [aC (by omega)];first|exact ak|(rw [aC (by omega)];first|exact ak|(rw [aC (by omega)];exact ak)))))),(by first|exact ak|(rw [aC (by omega)];first|exact ak|(rw [aC (by omega)];first|exact ak|(rw [aC (by omega)];first|exact ak|(rw [aC (by omega)];first|exact ak|(rw [aC (by omega)];exact ak)))))),(by first|exact ak|(rw [aC (by omega)];first|exact ak|(rw [aC (by omega)];first|exact ak|(rw [aC (by omega)];first|exact ak|(rw [aC (by omega)];first|exact ak|(rw [aC (by omega)];exact ak)))))),((Step.new (.blk 0 44 d.av) G.1).trans (Step.new (.blk 0 112 p.av) L1.good.1)).trans (Step.new (.blk 0 44 zD9) L2.good.1)⟩
def acn(G:Good b H g)(hb:H.base<=b)(h:g q=some (dG ca))(C:COk ca)(d:bM)(bF:Int)(p:Pkt)(hp:p.data.length<1000000000):
  ∃H',cl 114 [.agg d.av,I bF,.ref q 0 0,.agg p.av] H=some (uU (dX d bF ca p),H')/\Good b H' (upd g q (dG (dX d bF ca p).1))/\Step b H H':=by
 refine kQ rfl rfl (anr _ _ _ _ _ _) ?_;obtain⟨ls,L,k0,k1,k2,s⟩:=wu G d p;have d0:=L.ld k0 (i:=0) (v:=I d.aS) rfl;have d3:=L.ld k0 (i:=3) (v:=I d.step) rfl;have dA:=L.lda k0 (i:=0) (n:=9) (ys:=d.av) rfl rfl (by decide);have pA:=L.lda k1 (i:=0) (n:=9) (ys:=p.av) rfl rfl (by decide);have hf:=λH=>UW H d p;have ez:bd 44 []=some (.agg zD9):=by simp only [xq_,XP,jf,eu]
 have hbK:(((H.new (.blk 0 44 d.av)).new (.blk 0 112 p.av)).new (.blk 0 44 zD9)).base<=b:=by rw [s.base];exact hb
 obtain⟨Kz,z1,z2,z3,z4⟩:=L.whole hbK k2 (n:=9) (vs:=zD9) rfl rfl (by decide) rfl;have no:wQ ca=(ca,.zero,false):=rfl;have zu:Good b Kz (upd g q (dG ca)):=by rw [fP h];exact z3.out
 by_cases h1:d.aS≠1∨d.fits p=false
 ·have hm:dX d bF ca p=(ca,.zero,false):=by simp only [dX];rw [if_pos h1];rfl
  rw [hm];refine⟨Kz,?_,zu,s.trans z4⟩;by_cases hk:d.aS=1
  ·have hff:d.fits p=false:=h1.resolve_left (λh=>h hk);rw [hk] at d0;simp only [Nat.reduceLT,xq_,IV,aG (bG d),aG (aU p),d0,dA,pA,hf,hff,zaf,zam,ez,z1,z2,uU,mF]
  ·simp only [Nat.reduceLT,xq_,IV,aG (bG d),aG (aU p),d0,hk,zam,ez,z1,z2,uU,mF]
 ·have hk:d.aS=1:=Classical.byContradiction λh=>h1 (.inl h);have hff:d.fits p=true:=by cases hx:d.fits p <;> simp_all
  rw [hk] at d0;by_cases s1:d.step=1
  ·have hm:dX d bF ca p=wo d bF ca p:=by simp only [dX,wo];rw [if_neg h1,if_pos s1]
   rw [hm];rw [s1] at d3;obtain⟨K1,a1,a2,a3⟩:=acj L.good hbK (L.obj h) C d bF p hp;have M:=L.call h a2;obtain⟨K2,u1,u2,u3,u4⟩:=M.whole (by rw [a3.base];exact hbK) k2 (n:=9) (vs:=(wo d bF ca p).2.1.av) rfl rfl (by decide) (bG _);refine⟨K2,?_,u3.out,(s.trans a3).trans u4⟩;simp only [uU] at a1;simp only [Nat.reduceLT,Int.reduceEq,xq_,IV,aG (bG d),aG (aU p),d0,dA,pA,hf,hff,zaf,d3,a1,u1,u2,uU]
  ·by_cases s2:d.step=2
   ·have hm:dX d bF ca p=((ca.put ⟨d.head,-1,d.aj,0,false,p.data⟩).1,{ d with step:=6,aV:=1,head:=bF,data:=if p.flag then p.data else [] },true):=by simp only [dX];rw [if_neg h1,if_neg s1,if_pos s2]
    rw [hm];obtain⟨K1,a1,a2,a3⟩:=ajZ L.good hbK (L.obj h) C d bF p hp;have M:=L.call h a2;obtain⟨K2,u1,u2,u3,u4⟩:=M.whole (by rw [a3.base];exact hbK) k2 (n:=9) (vs:=({ d with step:=6,aV:=1,head:=bF,data:=if p.flag then p.data else [] }:bM).av) rfl rfl (by decide) (bG _);refine⟨K2,?_,u3.out,(s.trans a3).trans u4⟩;rw [s2] at d3;simp only [uU] at a1;simp only [Nat.reduceLT,Int.reduceEq,xq_,IV,aG (bG d),aG (aU p),d0,dA,pA,hf,hff,zaf,d3,a1,u1,u2,uU]
   ·by_cases s6:d.step=6
    ·have hm:dX d bF ca p=(ca,{ d with step:=0 },true):=by simp only [dX];rw [if_neg h1,if_neg s1,if_neg s2,if_pos s6]
     rw [hm];obtain⟨K1,a1,M,a3⟩:=L.st hbK k0 (i:=3) (v:=I 0) (by simp [bM.av]) dO;have k2':iO ls H.next (d.av.set 3 (I 0)) (H.next+1+1)=some zD9:=by rw [aC (by omega)];exact k2
     have dB:=M.lda ak (i:=0) (n:=9) (ys:=({ d with step:=0 }:bM).av) rfl rfl (by decide);obtain⟨K2,u1,u2,u3,u4⟩:=M.whole (by rw [a3.base];exact hbK) k2' (n:=9) (vs:=({ d with step:=0 }:bM).av) rfl rfl (by decide) (bG _);refine⟨K2,?_,by rw [fP h];exact u3.out,(s.trans a3).trans u4⟩;rw [s6] at d3;simp only [Nat.reduceLT,Int.reduceEq,xq_,IV,aG (bG d),aG (aU p),d0,dA,pA,hf,hff,zaf,d3,a1,dB,u1,u2,uU]
    ·have hm:dX d bF ca p=(ca,.zero,false):=by simp only [dX];rw [if_neg h1,if_neg s1,if_neg s2,if_neg s6];rfl
     rw [hm];refine⟨Kz,?_,zu,s.trans z4⟩;simp only [Nat.reduceLT,xq_,IV,aG (bG d),aG (aU p),d0,dA,pA,hf,hff,zaf,d3,s1,s2,s6,ez,z1,z2,uU,mF]
end
abbrev zE6:List AV:=[zI,zI,zI,zI,zB,zN]
def qg {n r gg i:Nat}{v u:AV}{K K':ah}(h:st n (.ref r gg i) v K=some (u,K')){x:Nat}(d:x≠r):K'.get x=K.get x:=by
 unfold st at h;simp only at h;cases b:K.get r with
 |map k e=>rw [b] at h;cases h
 |blk g' g cells=>
  rw [b] at h;simp only at h;split at h
  ·simp only [zaa,zad] at h;rw [<-h.2,dV,if_neg d]
  ·cases h
section
variable {b:Nat}{H:ah}{g:bD}{q:Nat}{ca:Cache}
def wB(d:bM)(bF:Int)(c:Cache):Cache × bM:=
 if d.next≠-1 then(c,{ d with step:=3 })
 else((c.put ⟨-1,-1,d.aj,0,true,d.data⟩).1,{ d with step:=6,aV:=2,head:=bF,data:=[] })
def DR {K:ah}{ls:Lcl}(L:Loc b K g ls)(hb:K.base<=b)(h:g q=some (dG ca))(C:COk ca)(d:bM)(bF:Int)(hd:d.data.length<1000000000){r r':Nat}(hrr:r≠r')(k0:ls r=some d.av)(k1:ls r'=some zD9):
  ∃H',BG cl (I bF) (.ref q 0 0) (.ref r 0 0) (.ref r' 0 0) K=some (.agg (wB d bF ca).2.av,H')/\Good b H' (upd g q (dG (wB d bF ca).1))/\Step b K H':=by
 have d7:=L.ld k0 (i:=7) (v:=I d.next) rfl;by_cases hn:d.next=-1
 rotate_left
 ·have hm:wB d bF ca=(ca,{ d with step:=3 }):=by unfold wB;rw [if_pos hn]
  rw [hm];obtain⟨K1,a1,M1,a3⟩:=L.st hb k0 (i:=3) (v:=I 3) (by simp [bM.av]) dO;have k2':iO ls r (d.av.set 3 (I 3)) r'=some zD9:=by rw [aC hrr.symm];exact k1
  have dB:=M1.lda ak (i:=0) (n:=9) (ys:=({ d with step:=3 }:bM).av) rfl rfl (by decide);obtain⟨K2,u1,u2,u3,u4⟩:=M1.whole (by rw [a3.base];exact hb) k2' (n:=9) (vs:=({ d with step:=3 }:bM).av) rfl rfl (by decide) (bG _);refine⟨K2,?_,by rw [fP h];exact u3.out,a3.trans u4⟩;simp only [Int.reduceNeg,xq_,BG,d7,hn,zam,a1,dB,u1,u2]
 ·have hm:wB d bF ca=((ca.put ⟨-1,-1,d.aj,0,true,d.data⟩).1,{ d with step:=6,aV:=2,head:=bF,data:=[] }):=by unfold wB;rw [if_neg (λh=>h hn)]
  rw [hm];have d1:=L.ld k0 (i:=1) (v:=I d.aj) rfl;have d6:=L.ld k0 (i:=6) (v:=dat d.data) rfl;have e1:=λH=>abX H d.aj (-1) (-1) true hd (qO H d.data);obtain⟨K1,a1,a2,a3⟩:=BQ L.good hb (L.obj h) C ⟨-1,-1,d.aj,0,true,d.data⟩ hd;have M1:=L.call h a2;obtain⟨K2,u2,M2,w2⟩:=M1.st (by rw [a3.base];exact hb) k0 (i:=3) (v:=I 6) (by simp [bM.av]) dO;have t2:=a3.trans w2;obtain⟨K3,u3,M3,w3⟩:=M2.st (by rw [t2.base];exact hb) ak (i:=4) (v:=I 2) (by simp [bM.av]) dO;have t3:=t2.trans w3;obtain⟨K4,u4,M4,w4⟩:=M3.st (by rw [t3.base];exact hb) ak (i:=5) (v:=I bF) (by simp [bM.av]) dO;have t4:=t3.trans w4;obtain⟨K5,u5,M5,w5⟩:=M4.st (by rw [t4.base];exact hb) ak (i:=6) (v:=zN) (by simp [bM.av]) qx;have t5:=t4.trans w5;have f1:=M5.lda ak (i:=0) (n:=9) (ys:=(bM.mk d.aS d.aj d.id 6 2 bF [] d.next d.told).av) (by simp only [bM.av,EF];rfl) rfl (by decide);have hne:r'≠r:=hrr.symm;obtain⟨K7,u7,v7,M7,w7⟩:=M5.whole (by rw [t5.base];exact hb) (r:=r') (xs:=zD9) (by rw [aC hne,aC hne,aC hne,aC hne];exact k1) (n:=9) (vs:=(bM.mk d.aS d.aj d.id 6 2 bF [] d.next d.told).av) rfl rfl (by decide) (bG _);refine⟨K7,?_,M7.out,t5.trans w7⟩;simp only [hn] at u7 v7;simp only [Int.reduceNeg,xq_,BG,d7,hn,zaf,d1,d6,e1,a1,u2,u3,u4,u5,f1,u7,v7]
def aj0(G:Good b H g)(hb:H.base<=b)(h:g q=some (dG ca))(C:COk ca)(d:bM)(bF:Int)(hd:d.data.length<1000000000):
  ∃H',cl 158 [.agg d.av,I bF,.ref q 0 0] H=some (.agg (dF d bF ca).2.av,H')/\Good b H' (upd g q (dG (dF d bF ca).1))/\Step b H H':=by
 refine kQ rfl rfl (aoh _ _ _ _ _) ?_;have L1:=(Loc.of G).newL (ty:=44) (xs:=d.av) (r:=H.next) (bG d) rfl;have L2:=L1.newL (ty:=44) (xs:=zD9) (r:=H.next+1) rfl (by rw [eX]);have d1:=L2.ld (r:=H.next) (i:=1) (v:=I d.aj) (by(repeat rw [aC (by omega)]);first|exact k0|exact k1|exact k2|rw [ak]) rfl;have ef:=rO L2.good (L2.obj h) C.len C.dat d.aj;have L3:=L2.newL (ty:=166) (xs:=zE6) (r:=H.next+1+1) rfl (by rw [eX,eX]);have s3:Step b H _:=((Step.new (.blk 0 44 d.av) G.1).trans (Step.new (.blk 0 44 zD9) L1.good.1)).trans (Step.new (.blk 0 166 zE6) L2.good.1);obtain⟨K1,z1,z2,M,z4⟩:=L3.whole (by rw [s3.base];exact hb) (r:=H.next+1+1) (xs:=zE6) (by(repeat rw [aC (by omega)]);first|exact k0|exact k1|exact k2|rw [ak]) (n:=6) (vs:=((ca.find d.aj).getD .zero).av) rfl rfl (by decide) (lN _);have t1:=s3.trans z4;have d7:=M.ld (r:=H.next) (i:=7) (v:=I d.next) (by(repeat rw [aC (by omega)]);first|exact k0|exact k1|exact k2|rw [ak]) rfl;simp only [ql] at ef;cases hfd:ca.find d.aj with
 |none=>
  have hm:dF d bF ca=wB d bF ca:=by simp only [dF,hfd];rfl
  rw [hm];rw [hfd] at ef z1;simp only [zaK] at ef;obtain⟨K2,u1,u2,u3⟩:=DR M (by rw [t1.base];exact hb) h C d bF hd (r:=H.next) (r':=H.next+1) (by omega) (by(repeat rw [aC (by omega)]);first|exact k0|exact k1|exact k2|rw [ak]) (by(repeat rw [aC (by omega)]);first|exact k0|exact k1|exact k2|rw [ak]);refine⟨K2,?_,u2,t1.trans u3⟩;by_cases hn:d.next=bF
  ·rw [hn] at d7;simp only [Nat.reduceLT,xq_,QX,aG (bG d),d1,ef,z1,d7];exact u1
  ·simp only [Nat.reduceLT,xq_,QX,aG (bG d),d1,ef,z1,d7,hn];exact u1
 |some own=>
  rw [hfd] at ef z1 M;simp only [zaL,zav] at ef z1 M;by_cases hn:d.next=bF
  ·have hm:dF d bF ca=wB { d with next:=own.fwd } bF ca:=by simp only [dF,hfd];rw [if_pos hn];rfl
   rw [hm];have e0:=M.ld (r:=H.next+1+1) (i:=0) (v:=I own.fwd) (by(repeat rw [aC (by omega)]);first|exact k0|exact k1|exact k2|rw [ak]) rfl;obtain⟨K2,y1,M2,y3⟩:=M.st (by rw [t1.base];exact hb) (r:=H.next) (xs:=d.av) (by(repeat rw [aC (by omega)]);first|exact k0|exact k1|exact k2|rw [ak]) (i:=7) (v:=I own.fwd) (by simp [bM.av]) dO;have t2:=t1.trans y3;obtain⟨K3,u1,u2,u3⟩:=DR M2 (by rw [t2.base];exact hb) h C { d with next:=own.fwd } bF hd (r:=H.next) (r':=H.next+1) (by omega) (by rw [ak];rfl) (by(repeat rw [aC (by omega)]);first|exact k0|exact k1|exact k2|rw [ak]);refine⟨K3,?_,u2,t2.trans u3⟩;rw [hn] at d7;simp only [Nat.reduceLT,xq_,QX,aG (bG d),d1,ef,z1,d7,e0,y1];exact u1
  ·have hm:dF d bF ca=wB d bF ca:=by simp only [dF,hfd];rw [if_neg hn];rfl
   rw [hm];obtain⟨K2,u1,u2,u3⟩:=DR M (by rw [t1.base];exact hb) h C d bF hd (r:=H.next) (r':=H.next+1) (by omega) (by(repeat rw [aC (by omega)]);first|exact k0|exact k1|exact k2|rw [ak]) (by(repeat rw [aC (by omega)]);first|exact k0|exact k1|exact k2|rw [ak]);refine⟨K2,?_,u2,t1.trans u3⟩;simp only [Nat.reduceLT,xq_,QX,aG (bG d),d1,ef,z1,d7,hn];exact u1
def BR {K:ah}{ls:Lcl}(L:Loc b K g ls)(hb:K.base<=b)(h:g q=some (dG ca))(C:COk ca)(d:bM)(bF:Int)(hd:d.data.length<1000000000){r r':Nat}(k:ls r=some d.av)(k1:ls r'=some zD9):
  ∃e H',lda 9 (.ref r 0 0) K=some (.agg d.av,K)/\cl 158 [.agg d.av,I bF,.ref q 0 0] K=some (.agg (dF d bF ca).2.av,e)/\st 9 (.ref r' 0 0) (.agg (dF d bF ca).2.av) e=some (bg,H')/\
   lda 9 (.ref r' 0 0) H'=some (.agg (dF d bF ca).2.av,H')/\Good b H' (upd g q (dG (dF d bF ca).1))/\Step b K H':=by
 obtain⟨e,m,o,j⟩:=aj0 L.good hb (L.obj h) C d bF hd;have M:=L.call h o;obtain⟨p,u,v,w,y⟩:=M.whole (by rw [j.base];exact hb) k1 (n:=9) (vs:=(dF d bF ca).2.av) rfl rfl Z (bG _);exact⟨e,p,L.lda k (i:=0) (n:=9) (ys:=d.av) rfl rfl Z,m,u,v,w.out,j.trans y⟩
def ae7(G:Good b H g)(hb:H.base<=b)(h:g q=some (dG ca))(C:COk ca)(d:bM)(bF:Int)(p:Pkt)(hd:d.data.length<1000000000)(hp:p.data.length<1000000000):
  ∃H',cl 115 [.agg d.av,I bF,.ref q 0 0,.agg p.av] H=some (uU (dY d bF ca p),H')/\Good b H' (upd g q (dG (dY d bF ca p).1))/\Step b H H':=by
 refine kQ rfl rfl (anu _ _ _ _ _ _) ?_;obtain⟨ls,L,k0,k1,k2,s⟩:=wu G d p;have d0:=L.ld k0 (i:=0) (v:=I d.aS) rfl;have d1:=L.ld k0 (i:=1) (v:=I d.aj) rfl;have dA:=L.lda k0 (i:=0) (n:=9) (ys:=d.av) rfl rfl (by decide);have pA:=L.lda k1 (i:=0) (n:=9) (ys:=p.av) rfl rfl (by decide);have hf:=λH=>UW H d p;have ez:bd 44 []=some (.agg zD9):=by simp only [xq_,XP,jf,eu]
 have hbK:(((H.new (.blk 0 44 d.av)).new (.blk 0 112 p.av)).new (.blk 0 44 zD9)).base<=b:=by rw [s.base];exact hb
 obtain⟨Kz,z1,z2,z3,z4⟩:=L.whole hbK k2 (n:=9) (vs:=zD9) rfl rfl (by decide) rfl;have zu:Good b Kz (upd g q (dG ca)):=by rw [fP h];exact z3.out
 by_cases h1:d.aS≠2∨d.fits p=false
 ·have hm:dY d bF ca p=(ca,.zero,false):=by simp only [dY];rw [if_pos h1];rfl
  rw [hm];refine⟨Kz,?_,zu,s.trans z4⟩;by_cases hk:d.aS=2
  ·have hff:d.fits p=false:=h1.resolve_left (λh=>h hk);rw [hk] at d0;simp only [Nat.reduceLT,xq_,Bv,aG (bG d),aG (aU p),d0,dA,pA,hf,hff,zaf,zam,ez,z1,z2,uU,mF]
  ·simp only [Nat.reduceLT,xq_,Bv,aG (bG d),aG (aU p),d0,hk,zam,ez,z1,z2,uU,mF]
 ·have hk:d.aS=2:=Classical.byContradiction λh=>h1 (.inl h);have hff:d.fits p=true:=by cases hx:d.fits p <;> simp_all
  rw [hk] at d0;have ef:=rO L.good (L.obj h) C.len C.dat d.aj;simp only [ql] at ef;have LE:=L.newL (ty:=166) (xs:=zE6) (r:=H.next+1+1+1) rfl (by rw [eX,eX,eX]);have sE:Step b H _:=s.trans (Step.new (.blk 0 166 zE6) L.good.1);obtain⟨KE,x1,x2,M,x4⟩:=LE.whole (by rw [sE.base];exact hb) (r:=H.next+1+1+1) (xs:=zE6) (by(repeat rw [aC (by omega)]);first|exact k0|exact k1|exact k2|rw [ak]) (n:=6) (vs:=((ca.find d.aj).getD .zero).av) rfl rfl (by decide) (lN _);have t1:=sE.trans x4;have d3:=M.ld (r:=H.next) (xs:=d.av) (i:=3) (v:=I d.step) (by(repeat rw [aC (by omega)]);first|exact k0|exact k1|exact k2|rw [ak]) rfl;have hbE:KE.base<=b:=by rw [t1.base];exact hb
  have e5:=M.ld (r:=H.next+1+1+1) (i:=5) (v:=dat ((ca.find d.aj).getD .zero).data) (by(repeat rw [aC (by omega)]);first|exact k0|exact k1|exact k2|rw [ak]) rfl;have hown:((ca.find d.aj).getD .zero).data.length<1000000000:=by
   cases hx:ca.find d.aj with
   |none=>exact(by decide:([]:List Int).length<1000000000)
   |some own=>exact C.dat own (zba hx)
  have e2:=λH=>kC H p.data hp;by_cases s1:d.step=1
  ·rw [s1] at d3;have p6:=M.ld (r:=H.next+1) (xs:=p.av) (i:=6) (v:=I p.aV) (by(repeat rw [aC (by omega)]);first|exact k0|exact k1|exact k2|rw [ak]) rfl;have p5:=M.ld (r:=H.next+1) (xs:=p.av) (i:=5) (v:=I p.ptr) (by(repeat rw [aC (by omega)]);first|exact k0|exact k1|exact k2|rw [ak]) rfl;have p8:=M.ld (r:=H.next+1) (xs:=p.av) (i:=8) (v:=dat p.data) (by(repeat rw [aC (by omega)]);first|exact k0|exact k1|exact k2|rw [ak]) rfl;obtain⟨K2,u2,M2,w2⟩:=M.st hbE (r:=H.next) (xs:=d.av) (by(repeat rw [aC (by omega)]);first|exact k0|exact k1|exact k2|rw [ak]) (i:=4) (v:=I p.aV) (by simp [bM.av]) dO;have t2:=t1.trans w2;obtain⟨K3,u3,M3,w3⟩:=M2.st (by rw [t2.base];exact hb) (r:=H.next) ak (i:=5) (v:=I p.ptr) (by simp [bM.av]) dO;have t3:=t2.trans w3;obtain⟨K4,u4,M4,w4⟩:=M3.st (by rw [t3.base];exact hb) (r:=H.next) ak (i:=8) (v:=I p.ptr) (by simp [bM.av]) dO;have t4:=t3.trans w4;obtain⟨K5,u5,M5,w5⟩:=M4.st (by rw [t4.base];exact hb) (r:=H.next) ak (i:=6) (v:=dat p.data) (by simp [bM.av]) tV;have t5:=t4.trans w5;have c1:∀{β:Type} (k:Option β),ck (bT (.ref (H.next+1) 0 5)) KE K2 k=k:=λk=>wP (qg u2 (by omega));have c2:∀{β:Type} (k:Option β),ck (bT (.ref (H.next+1) 0 5)) K2 K3 k=k:=λk=>wP (qg u3 (by omega));cases hx:ca.find d.aj with
   |none=>
    have hm:dY d bF ca p=((dF { d with aV:=p.aV,head:=p.ptr,told:=p.ptr,data:=p.data,next:=p.ptr } bF ca).1,(dF { d with aV:=p.aV,head:=p.ptr,told:=p.ptr,data:=p.data,next:=p.ptr } bF ca).2,true):=by
     simp only [dY,hx];rw [if_neg h1,if_pos s1]
    rw [hm];rw [hx] at ef x1;simp only [zaK] at ef;have n5:=M5.ld (r:=H.next) ak (i:=5) (v:=I p.ptr) rfl;obtain⟨K6,u6,M6,w6⟩:=M5.st (by rw [t5.base];exact hb) (r:=H.next) ak (i:=7) (v:=I p.ptr) (by simp [bM.av]) dO;have t6:=t5.trans w6;obtain⟨K7,K8,v1,v2,v3,v4,v5,v6⟩:=BR M6 (by rw [t6.base];exact hb) h C { d with aV:=p.aV,head:=p.ptr,told:=p.ptr,data:=p.data,next:=p.ptr } bF hp (r:=H.next) (r':=H.next+1+1) (by rw [ak];rfl) (by(repeat rw [aC (by omega)]);first|exact k0|exact k1|exact k2|rw [ak]);refine⟨K8,?_,v5,t6.trans v6⟩;simp only [Nat.reduceLT,Int.reduceEq,xq_,Bv,aG (bG d),aG (aU p),d0,dA,pA,hf,hff,zaf,d1,ef,x1,d3,p6,p5,p8,e2,u2,u3,u4,u5,c1,c2,Fq,n5,u6,v1,v2,v3,v4,uU]
   |some own=>
    have hm:dY d bF ca p=((dF { d with aV:=p.aV,head:=p.ptr,told:=p.ptr,data:=own.data,next:=p.ptr } bF ca).1,(dF { d with aV:=p.aV,head:=p.ptr,told:=p.ptr,data:=own.data,next:=p.ptr } bF ca).2,true):=by
     simp only [dY,hx];rw [if_neg h1,if_pos s1]
    rw [hm];rw [hx] at ef x1 e5;simp only [zaL,zav] at ef x1 e5;have e5':=M5.ld (r:=H.next+1+1+1) (i:=5) (v:=dat ((ca.find d.aj).getD .zero).data) (by(repeat rw [aC (by omega)]);first|exact k0|exact k1|exact k2|rw [ak]) rfl;rw [hx] at e5';simp only [zav] at e5';obtain⟨K5',u5',M5',w5'⟩:=M5.st (by rw [t5.base];exact hb) (r:=H.next) ak (i:=6) (v:=dat own.data) (by simp [bM.av]) tV;have t5':=t5.trans w5';have n5:=M5'.ld (r:=H.next) ak (i:=5) (v:=I p.ptr) rfl;obtain⟨K6,u6,M6,w6⟩:=M5'.st (by rw [t5'.base];exact hb) (r:=H.next) ak (i:=7) (v:=I p.ptr) (by simp [bM.av]) dO;have t6:=t5'.trans w6;obtain⟨K7,K8,v1,v2,v3,v4,v5,v6⟩:=BR M6 (by rw [t6.base];exact hb) h C { d with aV:=p.aV,head:=p.ptr,told:=p.ptr,data:=own.data,next:=p.ptr } bF (C.dat own (zba hx)) (r:=H.next) (r':=H.next+1+1) (by rw [ak];rfl) (by(repeat rw [aC (by omega)]);first|exact k0|exact k1|exact k2|rw [ak]);refine⟨K8,?_,v5,t6.trans v6⟩;simp only [Nat.reduceLT,Int.reduceEq,xq_,Bv,aG (bG d),aG (aU p),d0,dA,pA,hf,hff,zaf,d1,ef,x1,d3,p6,p5,p8,e2,u2,u3,u4,u5,c1,c2,e5',u5',Fq,n5,u6,v1,v2,v3,v4,uU]
  ·by_cases s3:d.step=3
   ·rw [s3] at d3;cases hx:ca.find d.aj with
    |none=>
     have hm:dY d bF ca p=((dF { d with data:=p.data,next:=p.ptr } bF ca).1,(dF { d with data:=p.data,next:=p.ptr } bF ca).2,true):=by
      simp only [dY,hx];rw [if_neg h1,if_neg s1,if_pos s3]
     rw [hm];rw [hx] at ef x1;simp only [zaK] at ef;have p8:=M.ld (r:=H.next+1) (xs:=p.av) (i:=8) (v:=dat p.data) (by(repeat rw [aC (by omega)]);first|exact k0|exact k1|exact k2|rw [ak]) rfl;obtain⟨K5,u5,M5,w5⟩:=M.st hbE (r:=H.next) (xs:=d.av) (by(repeat rw [aC (by omega)]);first|exact k0|exact k1|exact k2|rw [ak]) (i:=6) (v:=dat p.data) (by simp [bM.av]) tV;have t5:=t1.trans w5;have p5:=M5.ld (r:=H.next+1) (xs:=p.av) (i:=5) (v:=I p.ptr) (by(repeat rw [aC (by omega)]);first|exact k0|exact k1|exact k2|rw [ak]) rfl;obtain⟨K6,u6,M6,w6⟩:=M5.st (by rw [t5.base];exact hb) (r:=H.next) ak (i:=7) (v:=I p.ptr) (by simp [bM.av]) dO;have t6:=t5.trans w6;obtain⟨K7,K8,v1,v2,v3,v4,v5,v6⟩:=BR M6 (by rw [t6.base];exact hb) h C { d with data:=p.data,next:=p.ptr } bF hp (r:=H.next) (r':=H.next+1+1) (by rw [ak];rfl) (by(repeat rw [aC (by omega)]);first|exact k0|exact k1|exact k2|rw [ak]);refine⟨K8,?_,v5,t6.trans v6⟩;simp only [Nat.reduceLT,Int.reduceEq,xq_,Bv,aG (bG d),aG (aU p),d0,dA,pA,hf,hff,zaf,zam,d1,ef,x1,d3,p5,p8,e2,u5,Fv,u6,v1,v2,v3,v4,uU]
    |some own=>
     have hm:dY d bF ca p=((dF { d with data:=d.data,next:=p.ptr } bF ca).1,(dF { d with data:=d.data,next:=p.ptr } bF ca).2,true):=by
      simp only [dY,hx];rw [if_neg h1,if_neg s1,if_pos s3]
     rw [hm];rw [hx] at ef x1;simp only [zaL,zav] at ef x1;have p5:=M.ld (r:=H.next+1) (xs:=p.av) (i:=5) (v:=I p.ptr) (by(repeat rw [aC (by omega)]);first|exact k0|exact k1|exact k2|rw [ak]) rfl;obtain⟨K6,u6,M6,w6⟩:=M.st hbE (r:=H.next) (xs:=d.av) (by(repeat rw [aC (by omega)]);first|exact k0|exact k1|exact k2|rw [ak]) (i:=7) (v:=I p.ptr) (by simp [bM.av]) dO;have t6:=t1.trans w6;obtain⟨K7,K8,v1,v2,v3,v4,v5,v6⟩:=BR M6 (by rw [t6.base];exact hb) h C { d with data:=d.data,next:=p.ptr } bF hd (r:=H.next) (r':=H.next+1+1) (by rw [ak];rfl) (by(repeat rw [aC (by omega)]);first|exact k0|exact k1|exact k2|rw [ak]);refine⟨K8,?_,v5,t6.trans v6⟩;simp only [Nat.reduceLT,Int.reduceEq,xq_,Bv,aG (bG d),aG (aU p),d0,dA,pA,hf,hff,zaf,d1,ef,x1,d3,p5,Fv,u6,v1,v2,v3,v4,uU]
   ·by_cases s6:d.step=6
    ·have hm:dY d bF ca p=(ca,{ d with step:=0 },true):=by simp only [dY];rw [if_neg h1,if_neg s1,if_neg s3,if_pos s6]
     rw [hm];obtain⟨K1,a1,M1,a3⟩:=M.st hbE (r:=H.next) (xs:=d.av) (by(repeat rw [aC (by omega)]);first|exact k0|exact k1|exact k2|rw [ak]) (i:=3) (v:=I 0) (by simp [bM.av]) dO;have dB:=M1.lda ak (i:=0) (n:=9) (ys:=({ d with step:=0 }:bM).av) rfl rfl (by decide);obtain⟨K2,u1,u2,u3,u4⟩:=M1.whole (by rw [a3.base];exact hbE) (r:=H.next+1+1) (xs:=zD9) (by(repeat rw [aC (by omega)]);first|exact k0|exact k1|exact k2|rw [ak]) (n:=9) (vs:=({ d with step:=0 }:bM).av) rfl rfl (by decide) (bG _);refine⟨K2,?_,by rw [fP h];exact u3.out,(t1.trans a3).trans u4⟩;rw [s6] at d3;simp only [Nat.reduceLT,Int.reduceEq,xq_,Bv,aG (bG d),aG (aU p),d0,dA,pA,hf,hff,zaf,d1,ef,x1,d3,a1,dB,u1,u2,uU]
    ·have hm:dY d bF ca p=(ca,.zero,false):=by simp only [dY];rw [if_neg h1,if_neg s1,if_neg s3,if_neg s6];rfl
     rw [hm];obtain⟨K2,u1,u2,u3,u4⟩:=M.whole hbE (r:=H.next+1+1) (xs:=zD9) (by(repeat rw [aC (by omega)]);first|exact k0|exact k1|exact k2|rw [ak]) (n:=9) (vs:=zD9) rfl rfl (by decide) rfl;refine⟨K2,?_,by rw [fP h];exact u3.out,t1.trans u4⟩;simp only [Nat.reduceLT,xq_,Bv,aG (bG d),aG (aU p),d0,dA,pA,hf,hff,zaf,d1,ef,x1,d3,s1,s3,s6,ez,u1,u2,uU,mF]
end
section
variable {b:Nat}{H:ah}{g:bD}{q:Nat}{ca:Cache}
def Loc.ext {K K':ah}{ls:Lcl}(L:Loc b K g ls)(M:Made K K' qE):Loc b K' g ls:=⟨L.good.ext M.next M.same,L.free⟩
def apr(G:Good b H g)(hb:H.base<=b)(h:g q=some (dG ca))(C:COk ca)(d:bM)(head:Int):
  ∃H',cl 160 [.agg d.av,.ref q 0 0,I head] H=some (.agg (gW d ca head).2.1.av,H')/\Good b H' (upd g q (dG (gW d ca head).1))/\Step b H H':=by
 refine kQ rfl rfl (aok _ _ _ _ _) ?_;have L1:=(Loc.of G).newL (ty:=44) (xs:=d.av) (r:=H.next) (bG d) rfl;have L2:=L1.newL (ty:=44) (xs:=zD9) (r:=H.next+1) rfl (by rw [eX]);have s2:Step b H _:=(Step.new (.blk 0 44 d.av) G.1).trans (Step.new (.blk 0 44 zD9) L1.good.1);have d1:=L2.ld (r:=H.next) (i:=1) (v:=I d.aj) (by(repeat rw [aC (by omega)]);rw [ak]) rfl;obtain⟨K1,a1,a2,a3⟩:=Ja L2.good (by rw [s2.base];exact hb) (L2.obj h) C.len C.dat d.aj;have M1:=L2.call h a2;have t1:=s2.trans a3;obtain⟨K2,u2,M2,w2⟩:=M1.st (by rw [t1.base];exact hb) (r:=H.next) (xs:=d.av) (by(repeat rw [aC (by omega)]);rw [ak]) (i:=3) (v:=I 6) (by simp [bM.av]) dO;have t2:=t1.trans w2;obtain⟨K3,u3,M3,w3⟩:=M2.st (by rw [t2.base];exact hb) (r:=H.next) ak (i:=4) (v:=I 1) (by simp [bM.av]) dO;have t3:=t2.trans w3;obtain⟨K4,u4,M4,w4⟩:=M3.st (by rw [t3.base];exact hb) (r:=H.next) ak (i:=5) (v:=I head) (by simp [bM.av]) dO;have t4:=t3.trans w4;obtain⟨K5,u5,M5,w5⟩:=M4.st (by rw [t4.base];exact hb) (r:=H.next) ak (i:=6) (v:=zN) (by simp [bM.av]) qx;have t5:=t4.trans w5;have f1:=M5.lda (r:=H.next) ak (i:=0) (n:=9) (ys:=(gW d ca head).2.1.av) (by simp only [gW,bM.av,EF];rfl) rfl (by decide);obtain⟨K7,u7,v7,M7,w7⟩:=M5.whole (by rw [t5.base];exact hb) (r:=H.next+1) (xs:=zD9) (by(repeat rw [aC (by omega)]);rw [ak]) (n:=9) (vs:=(gW d ca head).2.1.av) rfl rfl (by decide) (bG _);refine⟨K7,?_,M7.out,t5.trans w7⟩;simp only [Nat.reduceLT,xq_,ahw,aG (bG d),d1,a1,u2,u3,u4,u5,f1,u7,v7]
abbrev lnk(f bk:Int):List AV:=[I f,I bk]
def aco(H:ah)(f b:Int):∃H',cl 183 [.agg (lnk f b)] H=some (B (decide (b=-1)),H')/\(H.base<=H.next->Made H H' qE):=by
 refine⟨H.new (.blk 0 164 (lnk f b)),bC rfl rfl (aoE _ _ _ ?_),λhb=>(Made.refl hb).new _⟩;simp only [Nat.reduceLT,Int.reduceNeg,xq_,hq_,ahK,aG]
def aj1(H:ah)(f b:Int):∃H',cl 192 [.agg (lnk f b)] H=some (B (decide (f=-1)),H')/\(H.base<=H.next->Made H H' qE):=by
 refine⟨H.new (.blk 0 164 (lnk f b)),bC rfl rfl (aoL _ _ _ ?_),λhb=>(Made.refl hb).new _⟩;simp only [Nat.reduceLT,Int.reduceNeg,xq_,hq_,ahM,aG]
def aj2(H:ah)(hb0:H.base<=H.next)(f bk:Int):∃H',cl 182 [.agg (lnk f bk)] H=some (B (decide (bk=-1/\f=-1)),H')/\Made H H' qE:=by
 let H1:=H.new (.blk 0 164 (lnk f bk));have g1:H1.get H.next=.blk 0 164 (lnk f bk):=aZ rfl
 have l1:lda 2 (.ref H.next 0 0) H1=some (.agg (lnk f bk),H1):=(iH (off:=0) (n:=2) g1 (zac 2)).trans rfl;obtain⟨H2,e1,M1⟩:=aco H1 f bk;by_cases h:bk=-1
 ·have hd:decide (bk=-1)=true:=decide_eq_true h;rw [hd] at e1;have hb:H1.base<=H1.next:=by simp only [H1,jB,eX];omega
  have M:=M1 hb;have l2:lda 2 (.ref H.next 0 0) H2=some (.agg (lnk f bk),H2):=(iH (g:=0) (ty:=164) (off:=0) (n:=2) (xs:=lnk f bk) (by rw [M.same _ (by simp only [H1,eX];omega)];exact g1) (zac 2)).trans rfl;obtain⟨H3,e2,M2⟩:=aj1 H2 f bk;have M3:=M2 (by rw [M.base];exact zaz hb M.next);have M4:Made H1 H3 qE:=⟨zaz M.next M3.next,M3.base.trans M.base,λr hr=>by rw [M3.same r (zay hr M.next),M.same r hr],Good.empty' (zaz M.next M3.next)⟩
  refine⟨H3,bC rfl rfl (ahJ _ _ _ ?_),M4.zy⟩;simp only [H1] at l1 e1;have hda:decide (bk=-1/\f=-1)=decide (f=-1):=by simp [h]
  rw [hda];simp only [Nat.reduceLT,Int.reduceNeg,xq_,abf,aG (show(lnk f bk).all AV.aP=true from rfl),l1,e1,l2,e2]
 ·have hd:decide (bk=-1)=false:=decide_eq_false h;rw [hd] at e1;have hda:decide (bk=-1/\f=-1)=false:=by simp [h]
  refine⟨H2,bC rfl rfl (ahJ _ _ _ ?_),(M1 (by simp only [H1,jB,eX];omega)).zy⟩;simp only [H1] at l1 e1;rw [hda];simp only [Nat.reduceLT,xq_,abf,aG (show(lnk f bk).all AV.aP=true from rfl),l1,e1]
end
section
variable {b:Nat}{H:ah}{g:bD}{q:Nat}{ca:Cache}
def lS(d:bM)(c:Cache)(p:Pkt):Cache × bM:=
 let d:bM:={ d with aV:=p.aV,head:=p.ptr,told:=p.ptr,data:=[],step:=6 }
 match c.find d.aj with
 |none=>(c,d)
 |some e=>
  if e.back=-1/\e.fwd=-1 then(c.drop d.aj,{ d with aV:=0,head:=-1,data:=if e.dn then e.data else [] })
  else if e.back=-1 then(c,{ d with head:=-1,next:=e.fwd,step:=5 })
  else(c,{ d with head:=e.back,next:=e.fwd,step:=4 })
def Yw(G:Good b H g)(hb:H.base<=b)(h:g q=some (dG ca))(C:COk ca)(d:bM)(p:Pkt):
  ∃H',cl 159 [.agg d.av,.ref q 0 0,.agg p.av] H=some (.agg (lS d ca p).2.av,H')/\Good b H' (upd g q (dG (lS d ca p).1))/\Step b H H':=by
 refine kQ rfl rfl (aoj _ _ _ _ _) ?_;obtain⟨ls,L,k0,k1,k2,s⟩:=wu G d p;have hbK:(((H.new (.blk 0 44 d.av)).new (.blk 0 112 p.av)).new (.blk 0 44 zD9)).base<=b:=by rw [s.base];exact hb
 have p6:=L.ld k1 (i:=6) (v:=I p.aV) rfl;have p5:=L.ld k1 (i:=5) (v:=I p.ptr) rfl;obtain⟨K2,u2,M2,w2⟩:=L.st hbK (r:=H.next) k0 (i:=4) (v:=I p.aV) (by simp [bM.av]) dO;have t2:=s.trans w2;obtain⟨K3,u3,M3,w3⟩:=M2.st (by rw [t2.base];exact hb) (r:=H.next) ak (i:=5) (v:=I p.ptr) (by simp [bM.av]) dO;have t3:=t2.trans w3;obtain⟨K4,u4,M4,w4⟩:=M3.st (by rw [t3.base];exact hb) (r:=H.next) ak (i:=8) (v:=I p.ptr) (by simp [bM.av]) dO;have t4:=t3.trans w4;obtain⟨K5,u5,M5,w5⟩:=M4.st (by rw [t4.base];exact hb) (r:=H.next) ak (i:=6) (v:=zN) (by simp [bM.av]) qx;have t5:=t4.trans w5;have c1:∀{β:Type} (k:Option β),ck (bT (.ref (H.next+1) 0 5)) (((H.new (.blk 0 44 d.av)).new (.blk 0 112 p.av)).new (.blk 0 44 zD9)) K2 k=k:=λk=>wP (qg u2 (by omega));have c2:∀{β:Type} (k:Option β),ck (bT (.ref (H.next+1) 0 5)) K2 K3 k=k:=λk=>wP (qg u3 (by omega));obtain⟨K6,u6,M6,w6⟩:=M5.st (by rw [t5.base];exact hb) (r:=H.next) ak (i:=3) (v:=I 6) (by simp [bM.av]) dO;have t6:=t5.trans w6;let d2:bM:={ d with aV:=p.aV,head:=p.ptr,told:=p.ptr,data:=[],step:=6 }
 have e2:(((((d.av.set 4 (I p.aV)).set 5 (I p.ptr)).set 8 (I p.ptr)).set 6 zN).set 3 (I 6))=d2.av:=by simp only [d2,bM.av,EF];rfl
 rw [e2] at M6;have k0':∀(l:Lcl) (x:List AV),iO l H.next x H.next=some x:=λ_ _=>ak
 have d1:=M6.ld (r:=H.next) ak (i:=1) (v:=I d.aj) rfl;have ef:=rO M6.good (M6.obj h) C.len C.dat d.aj;simp only [ql] at ef;have LE:=M6.newL (ty:=166) (xs:=zE6) (r:=K6.next) rfl rfl;have z2:iO (iO (iO (iO (iO ls H.next (d.av.set 4 (I p.aV))) H.next ((d.av.set 4 (I p.aV)).set 5 (I p.ptr))) H.next (((d.av.set 4 (I p.aV)).set 5 (I p.ptr)).set 8 (I p.ptr))) H.next ((((d.av.set 4 (I p.aV)).set 5 (I p.ptr)).set 8 (I p.ptr)).set 6 zN)) H.next d2.av (H.next+1+1)=some zD9:=by
  rw [aC (by omega),aC (by omega),aC (by omega),aC (by omega),aC (by omega)];exact k2
 have n6:H.next+1+1<K6.next:=M6.good.lt (qK (g:=g) z2)
 obtain⟨KE,x1,x2,ME,x4⟩:=LE.whole (by rw [jB,t6.base];exact hb) (r:=K6.next) ak (n:=6) (vs:=((ca.find d.aj).getD .zero).av) rfl rfl (by decide) (lN _);have tE:=(t6.trans (Step.new (.blk 0 166 zE6) M6.good.1)).trans x4;have hbE:KE.base<=b:=by rw [tE.base];exact hb
 generalize hls:iO (iO (iO (iO (iO (iO (iO ls H.next (d.av.set 4 (I p.aV))) H.next ((d.av.set 4 (I p.aV)).set 5 (I p.ptr))) H.next (((d.av.set 4 (I p.aV)).set 5 (I p.ptr)).set 8 (I p.ptr))) H.next ((((d.av.set 4 (I p.aV)).set 5 (I p.ptr)).set 8 (I p.ptr)).set 6 zN)) H.next d2.av) K6.next zE6) K6.next ((ca.find d.aj).getD .zero).av=lz at ME
 have y0:lz H.next=some d2.av:=by rw [<-hls,aC (by omega),aC (by omega),ak]
 have y2:lz (H.next+1+1)=some zD9:=by rw [<-hls,aC (by omega),aC (by omega)];exact z2
 have y3:lz K6.next=some ((ca.find d.aj).getD .zero).av:=by rw [<-hls,ak]
 have fin:∀{Kx:ah} {lx:Lcl} {gx:bD} (dx:bM),Loc b Kx gx lx->Kx.base<=b->lx H.next=some dx.av->lx (H.next+1+1)=some zD9->∃H',lda 9 (.ref H.next 0 0) Kx=some (.agg dx.av,Kx)/\st 9 (.ref (H.next+1+1) 0 0) (.agg dx.av) Kx=some (bg,H')/\lda 9 (.ref (H.next+1+1) 0 0) H'=some (.agg dx.av,H')/\Good b H' gx/\Step b Kx H':=λdx Lx hbx q0 q2=>by
  obtain⟨K',v1,v2,v3,v4⟩:=Lx.whole hbx q2 (n:=9) (vs:=dx.av) rfl rfl (by decide) (bG _);exact⟨K',Lx.lda q0 (i:=0) (n:=9) (ys:=dx.av) rfl rfl (by decide),v1,v2,v3.out,v4⟩
 cases hfd:ca.find d.aj with
 |none=>
  have hm:lS d ca p=(ca,d2):=by simp only [lS,hfd,d2]
  rw [hm];rw [hfd] at ef x1;simp only [zaK] at ef;obtain⟨H',f1,f2,f3,f4,f5⟩:=fin d2 ME hbE y0 y2;refine⟨H',?_,by rw [fP h];exact f4,tE.trans f5⟩;simp only [Nat.reduceLT,Int.reduceNeg,xq_,La,aG (bG d),aG (aU p),p6,p5,u2,u3,u4,u5,c1,c2,u6,d1,ef,x1,zam,f1,f2,f3]
 |some e=>
  rw [hfd] at ef x1 y3;simp only [zaL,zav] at ef x1 y3;have l2:=ME.lda y3 (i:=0) (n:=2) (ys:=lnk e.fwd e.back) rfl rfl (by decide);obtain⟨KO,o1,o2⟩:=aj2 KE (zaz hbE ME.good.1) e.fwd e.back;have MO:=ME.ext o2;have hbO:KO.base<=b:=by rw [o2.base];exact hbE
  have tO:Step b H KO:=tE.trans ⟨o2.base,o2.next,λr hr=>o2.same r (zay hr ME.good.1)⟩;by_cases h1:e.back=-1/\e.fwd=-1
  ·have dl:=MO.ld y0 (i:=1) (v:=I d.aj) rfl;obtain⟨K7,a1,a2,a3⟩:=Ja MO.good hbO (MO.obj h) C.len C.dat d.aj;have M7:=MO.call h a2;have t7:=tO.trans a3;obtain⟨K8,u8,M8,w8⟩:=M7.st (by rw [t7.base];exact hb) y0 (i:=4) (v:=I 0) (by simp [bM.av]) dO;have t8:=t7.trans w8;obtain⟨K9,u9,M9,w9⟩:=M8.st (by rw [t8.base];exact hb) (r:=H.next) ak (i:=5) (v:=I (-1)) (by simp [bM.av]) dO;have t9:=t8.trans w9;have y3':iO (iO lz H.next (d2.av.set 4 (I 0))) H.next ((d2.av.set 4 (I 0)).set 5 (I (-1))) K6.next=some e.av:=by rw [aC (by omega),aC (by omega)];exact y3
   have y2':iO (iO lz H.next (d2.av.set 4 (I 0))) H.next ((d2.av.set 4 (I 0)).set 5 (I (-1))) (H.next+1+1)=some zD9:=by rw [aC (by omega),aC (by omega)];exact y2
   have ed:=M9.ld y3' (i:=4) (v:=B e.dn) rfl;rw [decide_eq_true h1] at o1;cases hdy:e.dn with
   |false=>
    have hm:lS d ca p=(ca.drop d.aj,{ d2 with aV:=0,head:=-1,data:=[] }):=by
     simp only [lS,hfd,d2];rw [if_pos h1,hdy];rfl
    rw [hm];rw [hdy] at ed;obtain⟨H',f1,f2,f3,f4,f5⟩:=fin { d2 with aV:=0,head:=-1,data:=[] } M9 (by rw [t9.base];exact hb) (by rw [ak];rfl) y2';refine⟨H',?_,f4,t9.trans f5⟩;simp only [Nat.reduceLT,Int.reduceNeg,xq_,La,sV,aG (bG d),aG (aU p),p6,p5,u2,u3,u4,u5,c1,c2,u6,d1,ef,x1,zaf,l2,o1,dl,a1,u8,u9,ed,f1,f2,f3]
   |true=>
    have hm:lS d ca p=(ca.drop d.aj,{ d2 with aV:=0,head:=-1,data:=e.data }):=by
     simp only [lS,hfd,d2];rw [if_pos h1,hdy];rfl
    rw [hm];rw [hdy] at ed;have ex:=M9.ld y3' (i:=5) (v:=dat e.data) rfl;obtain⟨K10,u10,M10,w10⟩:=M9.st (by rw [t9.base];exact hb) (r:=H.next) ak (i:=6) (v:=dat e.data) (by simp [bM.av]) tV;have t10:=t9.trans w10;obtain⟨H',f1,f2,f3,f4,f5⟩:=fin { d2 with aV:=0,head:=-1,data:=e.data } M10 (by rw [t10.base];exact hb) (by rw [ak];rfl) (by rw [aC (by omega)];exact y2');refine⟨H',?_,f4,t10.trans f5⟩;simp only [Nat.reduceLT,Int.reduceNeg,xq_,La,sV,aG (bG d),aG (aU p),p6,p5,u2,u3,u4,u5,c1,c2,u6,d1,ef,x1,zaf,l2,o1,dl,a1,u8,u9,ed,ex,u10,f1,f2,f3]
  ·have l2':=MO.lda y3 (i:=0) (n:=2) (ys:=lnk e.fwd e.back) rfl rfl (by decide);obtain⟨KH,q1,q2'⟩:=aco KO e.fwd e.back;have q2:=q2' (zaz hbO MO.good.1);have MH:=MO.ext q2;have hbH:KH.base<=b:=by rw [q2.base];exact hbO
   have tH:Step b H KH:=tO.trans ⟨q2.base,q2.next,λr hr=>q2.same r (zay hr MO.good.1)⟩;rw [decide_eq_false h1] at o1;have g0:=MH.ld y3 (i:=0) (v:=I e.fwd) rfl;have g1:=MH.ld y3 (i:=1) (v:=I e.back) rfl;by_cases h2:e.back=-1
   ·have hm:lS d ca p=(ca,{ d2 with head:=-1,next:=e.fwd,step:=5 }):=by
     simp only [lS,hfd,d2];rw [if_neg h1,if_pos h2]
    rw [hm];rw [decide_eq_true h2] at q1;obtain⟨K8,u8,M8,w8⟩:=MH.st hbH y0 (i:=5) (v:=I (-1)) (by simp [bM.av]) dO;have t8:=tH.trans w8;obtain⟨K9,u9,M9,w9⟩:=M8.st (by rw [t8.base];exact hb) (r:=H.next) ak (i:=7) (v:=I e.fwd) (by simp [bM.av]) dO;have t9:=t8.trans w9;obtain⟨K10,u10,M10,w10⟩:=M9.st (by rw [t9.base];exact hb) (r:=H.next) ak (i:=3) (v:=I 5) (by simp [bM.av]) dO;have t10:=t9.trans w10;have c3:∀{β:Type} (k:Option β),ck (bT (.ref K6.next 0 0)) KH K8 k=k:=λk=>wP (qg u8 (by omega));obtain⟨H',f1,f2,f3,f4,f5⟩:=fin { d2 with head:=-1,next:=e.fwd,step:=5 } M10 (by rw [t10.base];exact hb) (by rw [ak];rfl) (by rw [aC (by omega),aC (by omega),aC (by omega)];exact y2);refine⟨H',?_,by rw [fP h];exact f4,t10.trans f5⟩;simp only [Nat.reduceLT,Int.reduceNeg,xq_,La,sV,aG (bG d),aG (aU p),p6,p5,u2,u3,u4,u5,c1,c2,u6,d1,ef,x1,zaf,l2,o1,l2',q1,g0,u8,u9,u10,c3,f1,f2,f3]
   ·have hm:lS d ca p=(ca,{ d2 with head:=e.back,next:=e.fwd,step:=4 }):=by
     simp only [lS,hfd,d2];rw [if_neg h1,if_neg h2]
    rw [hm];rw [decide_eq_false h2] at q1;obtain⟨K8,u8,M8,w8⟩:=MH.st hbH y0 (i:=5) (v:=I e.back) (by simp [bM.av]) dO;have t8:=tH.trans w8;obtain⟨K9,u9,M9,w9⟩:=M8.st (by rw [t8.base];exact hb) (r:=H.next) ak (i:=7) (v:=I e.fwd) (by simp [bM.av]) dO;have t9:=t8.trans w9;obtain⟨K10,u10,M10,w10⟩:=M9.st (by rw [t9.base];exact hb) (r:=H.next) ak (i:=3) (v:=I 4) (by simp [bM.av]) dO;have t10:=t9.trans w10;have c3:∀{β:Type} (k:Option β),ck (bT (.ref K6.next 0 0)) KH K8 k=k:=λk=>wP (qg u8 (by omega));obtain⟨H',f1,f2,f3,f4,f5⟩:=fin { d2 with head:=e.back,next:=e.fwd,step:=4 } M10 (by rw [t10.base];exact hb) (by rw [ak];rfl) (by rw [aC (by omega),aC (by omega),aC (by omega)];exact y2);refine⟨H',?_,by rw [fP h];exact f4,t10.trans f5⟩;simp only [Nat.reduceLT,Int.reduceNeg,xq_,La,sV,aG (bG d),aG (aU p),p6,p5,u2,u3,u4,u5,c1,c2,u6,d1,ef,x1,zaf,l2,o1,l2',q1,g0,g1,u8,u9,u10,c3,f1,f2,f3]
end
section
variable {b:Nat}{H:ah}{g:bD}{q:Nat}{ca:Cache}
def aj3(G:Good b H g)(hb:H.base<=b)(h:g q=some (dG ca))(C:COk ca)(d:bM)(p:Pkt)(nd:Int):
  ∃H',cl 116 [.agg d.av,I nd,.ref q 0 0,.agg p.av] H=some (uU (eF d ca p),H')/\Good b H' (upd g q (dG (eF d ca p).1))/\Step b H H':=by
 refine kQ rfl rfl (anv _ _ _ _ _ _) ?_;obtain⟨ls,L,k0,k1,k2,s⟩:=wu G d p;have d0:=L.ld k0 (i:=0) (v:=I d.aS) rfl;have d3:=L.ld k0 (i:=3) (v:=I d.step) rfl;have dA:=L.lda k0 (i:=0) (n:=9) (ys:=d.av) rfl rfl (by decide);have pA:=L.lda k1 (i:=0) (n:=9) (ys:=p.av) rfl rfl (by decide);have hf:=λH=>UW H d p;have ez:bd 44 []=some (.agg zD9):=by simp only [xq_,XP,jf,eu]
 have hbK:(((H.new (.blk 0 44 d.av)).new (.blk 0 112 p.av)).new (.blk 0 44 zD9)).base<=b:=by rw [s.base];exact hb
 obtain⟨Kz,z1,z2,z3,z4⟩:=L.whole hbK k2 (n:=9) (vs:=zD9) rfl rfl (by decide) rfl;have zu:Good b Kz (upd g q (dG ca)):=by rw [fP h];exact z3.out
 have outs:∀head,∃K1 K2,cl 160 [.agg d.av,.ref q 0 0,I head] (((H.new (.blk 0 44 d.av)).new (.blk 0 112 p.av)).new (.blk 0 44 zD9))=some (.agg (gW d ca head).2.1.av,K1)/\
   st 9 (.ref (H.next+1+1) 0 0) (.agg (gW d ca head).2.1.av) K1=some (bg,K2)/\lda 9 (.ref (H.next+1+1) 0 0) K2=some (.agg (gW d ca head).2.1.av,K2)/\Good b K2 (upd g q (dG (gW d ca head).1))/\Step b H K2:=λhead=>by
  obtain⟨K1,a1,a2,a3⟩:=apr L.good hbK (L.obj h) C d head;have M:=L.call h a2;obtain⟨K2,u1,u2,u3,u4⟩:=M.whole (by rw [a3.base];exact hbK) k2 (n:=9) (vs:=(gW d ca head).2.1.av) rfl rfl (by decide) (bG _);exact⟨K1,K2,a1,u1,u2,u3.out,(s.trans a3).trans u4⟩
 have steps:∀k:Int,∃K1 K2,st 1 (.ref H.next 0 3) (I k) (((H.new (.blk 0 44 d.av)).new (.blk 0 112 p.av)).new (.blk 0 44 zD9))=some (bg,K1)/\lda 9 (.ref H.next 0 0) K1=some (.agg ({ d with step:=k }:bM).av,K1)/\
   st 9 (.ref (H.next+1+1) 0 0) (.agg ({ d with step:=k }:bM).av) K1=some (bg,K2)/\lda 9 (.ref (H.next+1+1) 0 0) K2=some (.agg ({ d with step:=k }:bM).av,K2)/\Good b K2 (upd g q (dG ca))/\Step b H K2:=λk=>by
  obtain⟨K1,a1,M,a3⟩:=L.st hbK k0 (i:=3) (v:=I k) (by simp [bM.av]) dO;have k2':iO ls H.next (d.av.set 3 (I k)) (H.next+1+1)=some zD9:=by rw [aC (by omega)];exact k2
  have dB:=M.lda ak (i:=0) (n:=9) (ys:=({ d with step:=k }:bM).av) rfl rfl (by decide);obtain⟨K2,u1,u2,u3,u4⟩:=M.whole (by rw [a3.base];exact hbK) k2' (n:=9) (vs:=({ d with step:=k }:bM).av) rfl rfl (by decide) (bG _);exact⟨K1,K2,a1,dB,u1,u2,by rw [fP h];exact u3.out,(s.trans a3).trans u4⟩
 have d7:=L.ld k0 (i:=7) (v:=I d.next) rfl;have d5:=L.ld k0 (i:=5) (v:=I d.head) rfl;have d8:=L.ld k0 (i:=8) (v:=I d.told) rfl;by_cases h1:d.aS≠3∨d.fits p=false
 ·have hm:eF d ca p=(ca,.zero,false):=by simp only [eF];rw [if_pos h1];rfl
  rw [hm];refine⟨Kz,?_,zu,s.trans z4⟩;by_cases hk:d.aS=3
  ·have hff:d.fits p=false:=h1.resolve_left (λh=>h hk);rw [hk] at d0;simp only [Nat.reduceLT,Int.reduceNeg,xq_,zq,aG (bG d),aG (aU p),d0,dA,pA,hf,hff,zaf,zam,ez,z1,z2,uU,mF]
  ·simp only [Nat.reduceLT,Int.reduceNeg,xq_,zq,aG (bG d),aG (aU p),d0,hk,zam,ez,z1,z2,uU,mF]
 ·have hk:d.aS=3:=Classical.byContradiction λh=>h1 (.inl h);have hff:d.fits p=true:=by cases hx:d.fits p <;> simp_all
  rw [hk] at d0;by_cases s1:d.step=1
  ·have hm:eF d ca p=((lS d ca p).1,(lS d ca p).2,true):=by
    simp only [eF,lS];rw [if_neg h1,if_pos s1];cases ca.find d.aj with
    |none=>rfl
    |some e=>
     simp only;split
     ·rfl
     ·split <;> rfl
   rw [hm];rw [s1] at d3;obtain⟨K1,a1,a2,a3⟩:=Yw L.good hbK (L.obj h) C d p;have M:=L.call h a2;obtain⟨K2,u1,u2,u3,u4⟩:=M.whole (by rw [a3.base];exact hbK) k2 (n:=9) (vs:=(lS d ca p).2.av) rfl rfl (by decide) (bG _);refine⟨K2,?_,u3.out,(s.trans a3).trans u4⟩;simp only [Nat.reduceLT,Int.reduceEq,Int.reduceNeg,xq_,zq,aG (bG d),aG (aU p),d0,dA,pA,hf,hff,zaf,d3,a1,u1,u2,uU]
  ·by_cases s4:d.step=4
   ·rw [s4] at d3;by_cases hn:d.next=-1
    ·have hm:eF d ca p=gW d ca d.told:=by simp only [eF];rw [if_neg h1,if_neg s1,if_pos s4,if_pos hn]
     rw [hm];obtain⟨K1,K2,a1,u1,u2,u3,u4⟩:=outs d.told;refine⟨K2,?_,u3,u4⟩;have ht:(gW d ca d.told).2.2=true:=rfl;rw [hn] at d7;simp only [Nat.reduceLT,Int.reduceEq,Int.reduceNeg,xq_,zq,aG (bG d),aG (aU p),d0,dA,pA,hf,hff,zaf,d3,d7,d8,a1,u1,u2,uU,ht]
    ·have hm:eF d ca p=(ca,{ d with step:=5 },true):=by simp only [eF];rw [if_neg h1,if_neg s1,if_pos s4,if_neg hn]
     rw [hm];obtain⟨K1,K2,a1,dB,u1,u2,u3,u4⟩:=steps 5;refine⟨K2,?_,u3,u4⟩;simp only [Nat.reduceLT,Int.reduceEq,Int.reduceNeg,xq_,zq,aG (bG d),aG (aU p),d0,dA,pA,hf,hff,zaf,d3,d7,hn,a1,dB,u1,u2,uU]
   ·by_cases s5:d.step=5
    ·rw [s5] at d3;by_cases hn:d.head=-1
     ·have hm:eF d ca p=gW d ca d.next:=by simp only [eF];rw [if_neg h1,if_neg s1,if_neg s4,if_pos s5,if_pos hn]
      rw [hm];obtain⟨K1,K2,a1,u1,u2,u3,u4⟩:=outs d.next
      refine⟨K2,?_,u3,u4⟩;have ht:(gW d ca d.next).2.2=true:=rfl;rw [hn] at d5;simp only [Nat.reduceLT,Int.reduceEq,Int.reduceNeg,xq_,zq,aG (bG d),aG (aU p),d0,dA,pA,hf,hff,zaf,d3,d5,d7,a1,u1,u2,uU,ht]
     ·have hm:eF d ca p=gW d ca d.told:=by simp only [eF];rw [if_neg h1,if_neg s1,if_neg s4,if_pos s5,if_neg hn]
      rw [hm];obtain⟨K1,K2,a1,u1,u2,u3,u4⟩:=outs d.told;refine⟨K2,?_,u3,u4⟩;have ht:(gW d ca d.told).2.2=true:=rfl;simp only [Nat.reduceLT,Int.reduceEq,Int.reduceNeg,xq_,zq,aG (bG d),aG (aU p),d0,dA,pA,hf,hff,zaf,d3,d5,hn,d8,a1,u1,u2,uU,ht]
    ·by_cases s6:d.step=6
     ·have hm:eF d ca p=(ca,{ d with step:=0 },true):=by simp only [eF];rw [if_neg h1,if_neg s1,if_neg s4,if_neg s5,if_pos s6]
      rw [hm];obtain⟨K1,K2,a1,dB,u1,u2,u3,u4⟩:=steps 0;refine⟨K2,?_,u3,u4⟩;rw [s6] at d3;simp only [Nat.reduceLT,Int.reduceEq,Int.reduceNeg,xq_,zq,aG (bG d),aG (aU p),d0,dA,pA,hf,hff,zaf,d3,a1,dB,u1,u2,uU]
     ·have hm:eF d ca p=(ca,.zero,false):=by simp only [eF];rw [if_neg h1,if_neg s1,if_neg s4,if_neg s5,if_neg s6];rfl
      rw [hm];refine⟨Kz,?_,zu,s.trans z4⟩;simp only [Nat.reduceLT,Int.reduceNeg,xq_,zq,aG (bG d),aG (aU p),d0,dA,pA,hf,hff,zaf,d3,s1,s4,s5,s6,ez,z1,z2,uU,mF]
end
section
variable {b:Nat}{H:ah}{g:bD}{q:Nat}
def RS(G:Good b H g)(hb:H.base<=b){l:List Evn}(h:g q=some (oC l))(w:l.length<1000000)(e:Evn):
  ∃x j H1 d,ld (.ref q 0 0) H=some (x,H)/\app 85 4 32 x (.sl H.next 0 0 4 1 1 true) (H.new (.blk 0 85 e.av))=some (j,H1)/\st 1 (.ref q 0 0) j H1=some (bg,d)/\Good b d (upd g q (oC (l++[e])))/\Step b H d:=by
 obtain⟨x,k,c⟩:=G.seq h (i:=0) rfl;obtain⟨j,H1,d,o,p,u,v⟩:=(G.new (.blk 0 85 e.av)).append (e:=85) (by_:=32) (n:=l.length) (by rw [jB];exact hb) h (i:=0) rfl Z (dM CX l) (c.new _) (kN (ex:=true) (n:=1) (m:=4) (l:=e.av) rfl) (Ii e) (by unfold most;omega) (by unfold most;omega);refine⟨x,j,H1,d,k,o,p,?_,(Step.new _ G.1).trans v⟩;have:oC (l++[e])=(oC l).set 0 (.seq 4 (l.flatMap Evn.av++e.av)):=by simp [oC]
 rw [this];exact u
def Yx(G:Good b H g)(hb:H.base<=b){l:List Evn}(h:g q=some (oC l))(d:l.length<1000000)(bF idx:Int):
  ∃H',cl 85 [.ref q 0 0,I bF,I idx] H=some (.tup [],H')/\Good b H' (upd g q (oC (l++[⟨bF,idx,false,0⟩])))/\Step b H H':=by
 obtain⟨x,u,H1,e,a0,i,j,k,o⟩:=RS G hb h d ⟨bF,idx,false,0⟩;refine⟨e,bC rfl rfl (ar2 _ _ _ _ _ ?_),k,o⟩;have p:bd 85 [(0,I bF),(1,I idx)]=some (.agg (Evn.mk bF idx false 0).av):=by
  simp only [xq_,alj,jf,fK,aiB,Evn.av];rfl
 simp only [xq_,am0,a0,p,ak8,zbh,Nat.reduceLeDiff,kZ (m:=4) (z:=[zI,zI,zB,zI]) (v:=.agg (Evn.mk bF idx false 0).av) rfl rfl (Ii _),fA,i,j]
def ae8(G:Good b H g)(hb:H.base<=b){l:List Evn}(h:g q=some (oC l))(d:l.length<1000000)(bF idx v:Int):
  ∃H',cl 118 [.ref q 0 0,I bF,I idx,I v] H=some (.tup [],H')/\Good b H' (upd g q (oC (l++[⟨bF,idx,true,v⟩])))/\Step b H H':=by
 obtain⟨x,u,H1,e,a0,i,j,k,o⟩:=RS G hb h d ⟨bF,idx,true,v⟩;refine⟨e,bC rfl rfl (anw _ _ _ _ _ _ ?_),k,o⟩;have p:bd 85 [(0,I bF),(1,I idx),(2,B true),(3,I v)]=some (.agg (Evn.mk bF idx true v).av):=by
  simp only [xq_,alj,jf,fK,aiB,Evn.av];rfl
 simp only [xq_,agZ,a0,p,ak8,zbh,Nat.reduceLeDiff,kZ (m:=4) (z:=[zI,zI,zB,zI]) (v:=.agg (Evn.mk bF idx true v).av) rfl rfl (Ii _),fA,i,j]
end
section
variable {b:Nat}{H:ah}{g:bD}{q:Nat}
def acp(G:Good b H g)(hb:H.base<=b){p:Proc}(h:g q=some (rY p))(m:p.ops.length<1000)(o:p.bH.length<1000)(hv:p.bH.length<=p.ops.length):
  ∃v H',cl 84 [.ref q 0 0] H=some (v,H')/\Good b H' (upd g q (rY p.A8))/\Step b H H':=by
 have e:=G.load h (i:=2) (x:=B p.eG) rfl;have k:=OJ G h m o;cases d:p.eG with
 |true=>
  have hm:p.A8=p:=by simp [Proc.A8,d]
  rw [hm];rw [d] at e;refine⟨I 6,H,bC rfl rfl (ajf _ _ _ ?_),by rw [fP h];exact G,Step.refl _ _⟩;simp only [xq_,aek,e]
 |false=>
  rw [d] at e;by_cases j:p.left=0
  ·have hc:p.cur=none:=by
    unfold Proc.cur;unfold Proc.left at j;exact zaG V
   have hm:p.A8=p:=by simp [Proc.A8,hc]
   rw [hm];rw [j] at k;refine⟨I 6,H,bC rfl rfl (ajf _ _ _ ?_),by rw [fP h];exact G,Step.refl _ _⟩;simp only [xq_,aek,e,k]
  ·have hc:p.cur≠none:=by
    unfold Proc.cur;unfold Proc.left at j;intro u;have:=zdc.1 u;omega
   have hm:p.A8={ p with eG:=true }:=by
    unfold Proc.A8;rw [if_neg (by rw [d];exact λh=>h.elim (λh=>(by cases h)) hc)]
   obtain⟨H',w,y,z,A⟩:=G.store hb h (i:=2) (v:=B true) (by simp [rY]) Fb;rw [hm];refine⟨I 0,H',bC rfl rfl (ajf _ _ _ ?_),y,z⟩;simp only [xq_,aek,e,k,j,w]
def aj6(G:Good b H g)(hb:H.base<=b){p:Proc}(h:g q=some (rY p))(K:p.bH.length<1000)(v:Int):
  ∃r H',cl 117 [.ref q 0 0,I v] H=some (r,H')/\Good b H' (upd g q (rY (p.Df v)))/\Step b H H':=by
 have j:=G.load h (i:=2) (x:=B p.eG) rfl;cases d:p.eG with
 |false=>
  have hm:p.Df v=p:=by simp [Proc.Df,d]
  rw [hm];rw [d] at j;refine⟨I 6,H,bC rfl rfl (agY _ _ _ _ ?_),by rw [fP h];exact G,Step.refl _ _⟩;simp only [xq_,aaV,j,zam]
 |true=>
  have hm:p.Df v=⟨p.ops,p.bH++[v],false⟩:=by simp [Proc.Df,d]
  rw [hm];rw [d] at j;obtain⟨x,u,c⟩:=G.seq h (i:=1) rfl;obtain⟨L,H1,M,w,y,z,k⟩:=(G.new (.blk 0 3 [I v])).append (e:=3) (by_:=8) (n:=p.bH.length) (by rw [jB];exact hb) h (i:=1) rfl Z O (c.new _) (kN (ex:=true) (n:=1) (m:=1) (l:=[I v]) rfl) rfl (by unfold most;omega) (by unfold most;omega);have A:upd g q ((rY p).set 1 (.seq 1 (p.bH.map I++[I v]))) q=some ((rY p).set 1 (.seq 1 (p.bH.map I++[I v]))):=aQ;obtain⟨C,D,o,E,Q⟩:=z.store (by rw [k.base,jB];exact hb) A (i:=2) (v:=B false) (by simp [rY]) Fb;rw [qw] at o;have F:∀H,bs 22 1 [(0,I v)] H=some (.sl H.next 0 0 1 1 1 true,H.new (.blk 0 3 [I v])):=λH=>(QB Z).trans (kZ rfl rfl rfl);refine⟨I 0,C,bC rfl rfl (agY _ _ _ _ ?_),?_,((Step.new _ G.1).trans k).trans E⟩
  ·simp only [xq_,aaV,j,zaf,u,F,w,y,D]
  ·have:rY ⟨p.ops,p.bH++[v],false⟩=((rY p).set 1 (.seq 1 (p.bH.map I++[I v]))).set 2 (.av (B false)):=by simp [rY]
   rw [this];exact o
end
section
variable {b:Nat}{H:ah}{g:bD}{q:Nat}
def aj7(G:Good b H g)(hb:H.base<=b){p:Proc}(h:g q=some (rY p))(R:p.ops.length<1000)(T:p.bH.length<1000)(hv:p.bH.length<=p.ops.length):
  ∃H',cl 74 [.ref q 0 0] H=some (.tup [.agg p.op.av,I p.idx,B p.cur.isSome],H')/\Good b H' g/\Step b H H':=by
 refine kQ rfl rfl (arR _ _ _) ?_;have L:=(Loc.of G).newL (ty:=53) (xs:=[zI,zI,zI]) (r:=H.next) rfl rfl;have E:Step b H _:=Step.new (.blk 0 53 [zI,zI,zI]) G.1;have v:=OJ L.good (L.obj h) R T;have d:(H.new (.blk 0 53 [zI,zI,zI])).base<=b:=by rw [jB];exact hb
 have W:Opn.zero.av=[zI,zI,zI]:=rfl;by_cases j:p.left=0
 ·have hc:p.cur=none:=by
   unfold Proc.cur;unfold Proc.left at j;exact zaG (by omega)
  obtain⟨K,e,w,y,z⟩:=L.whole d ak (n:=3) (vs:=[zI,zI,zI]) rfl rfl (by decide) rfl;have X:bd 53 []=some (.agg [zI,zI,zI]):=by simp only [xq_,adS,jf,eu]
  refine⟨K,?_,y.out,E.trans z⟩;rw [j] at v;have hi:p.idx=0:=by simp [Proc.idx,hc]
  have m:p.op.av=[zI,zI,zI]:=by simp only [Proc.op,hc,za5];exact W
  simp only [xq_,aja,v,X,e,w,hi,m,hc,zaK]
 ·have A:p.bH.length<p.ops.length:=by unfold Proc.left at j;omega
  obtain⟨o,m⟩:∃o,p.ops[p.bH.length]?=some o:=⟨_,zab A⟩
  have hc:p.cur=some o:=m;have l0:=L.good.load (L.obj h) (i:=0) (x:=vsl 3 Opn.av p.ops) rfl;obtain⟨x,u,c⟩:=L.good.seq (L.obj h) (i:=1) rfl;have e2:=(c.is (n:=p.bH.length) (by decide) (by simp)).lnS;have hs:=Ic eP (H.new (.blk 0 53 [zI,zI,zI])) p.ops;have F:=hs.ix (k:=.i64) (i:=(p.bH.length:Int)) (by omega) (by omega);rw [zar] at F;have e4:=mW eP hs m;obtain⟨K,e,w,y,z⟩:=L.whole d ak (n:=3) (vs:=o.av) rfl (eP _) (by decide) (oZ _);have c1:∀{β:Type} (k:Option β),ck (bT (.ref q 0 1)) (H.new (.blk 0 53 [zI,zI,zI])) K k=k:=λk=>wP (qg e (by have:=G.lt h;omega));have c2:∀{β:Type} (k:Option β),ck (bT x) (H.new (.blk 0 53 [zI,zI,zI])) K k=k:=λk=>Yh λr M=>by
   refine qg e ?_;obtain⟨c0,aa,Q⟩:=G.seq h (i:=1) rfl;have C:x=c0:=by
    have:=(Q.new (.blk 0 53 [zI,zI,zI])).load;rw [this] at u;simp only [zaa,zad] at u;exact u.1.symm
   subst C;rcases Q.length (n:=p.bH.length) (by decide) (by simp) with⟨rfl,_⟩|⟨r',gg,off,ab,ex,ty,all,rfl,q1,q2,q3,_⟩
   ·cases M
   ·simp only [bT,zaa] at M;omega
  refine⟨K,?_,y.out,E.trans z⟩;have hi:p.idx=p.bH.length:=by simp [Proc.idx,hc]
  have D:p.op=o:=by simp [Proc.op,hc]
  simp only [xq_,aja,v,j,l0,u,e2,F,e4,e,w,c1,c2,hi,D,hc,zaL]
end
def aps {β:Type}{s b:Nat}{H H':ah}{k:Option β}(h:∀r,s<=r->r<b->H'.get r=H.get r):ckR s b H H' k=k:=if_pos h
def LM(r gg o:Nat)(v:AV){H H':ah}(h:st 1 (.ref r gg (o+1)) v H=some (bg,H')):cl 172 [.ref r gg o,v] H=some (.tup [],H'):=by
 refine bC rfl rfl (aov _ _ _ _ ?_);simp only [xq_,ahB,h]
def acr(r gg o:Nat)(v:AV){H H':ah}(h:st 1 (.ref r gg o) v H=some (bg,H')):cl 173 [.ref r gg o,v] H=some (.tup [],H'):=by
 refine bC rfl rfl (aow _ _ _ _ ?_);simp only [xq_,ahC,h]
section
variable {b:Nat}{H:ah}{g:bD}{q:Nat}{ca:Cache}
def O4 {K:ah}{ls:Lcl}(L:Loc b K g ls)(hb:K.base<=b)(h:g q=some (dG ca))(C:COk ca)(e:Ent)(p:e.data.length<1000000000)(out:Pkt){r4 r6 r8:Nat}(k4:ls r4=some zP9)(u:ls r6=some e.av)(d:ls r8=some out.av):
  ∃H',yF cl (.ref q 0 0) (.ref r4 0 0) (.ref r6 0 0) (.ref r8 0 0) K=some (.tup [.agg out.av,I (ca.put e).2],H')/\Good b H' (upd g q (dG (ca.put e).1))/\Step b K H':=by
 have v:=L.lda d (i:=0) (n:=9) (ys:=out.av) rfl rfl Z;have w:=L.lda u (i:=0) (n:=6) (ys:=e.av) rfl rfl Z;obtain⟨y,m,z,o⟩:=BQ L.good hb (L.obj h) C e p;have M:=L.call h z;have j:∀{β:Type} (k:Option β),ck (bT (.ref r8 0 0)) K y k=k:=λk=>wP (Xe L.good M.good (Xb _ _ _ _ _ m) (qK d) (qK d));obtain⟨A,D,E,F,G⟩:=M.whole (by rw [o.base];exact hb) k4 (n:=9) (vs:=out.av) rfl rfl Z (aU _);refine⟨A,?_,F.out,o.trans G⟩;simp only [xq_,yF,v,w,m,D,E,j]
end
section
variable {b:Nat}{H:ah}{g:bD}{q:Nat}{ca:Cache}
def Y8(r:Cache × Pkt × Int):AV:=.tup [.agg r.2.1.av,I r.2.2]
def RU(G:Good b H g)(hb:H.base<=b)(h:g q=some (dG ca))(C:COk ca)(p:Pkt)(hx:(!p.ok || decide (p.aS<3) || decide (6<p.aS))=true∨ca.find p.aj=none):
  ∃H',cl 130 [.ref q 0 0,.agg p.av] H=some (Y8 (fQ ca p),H')/\Good b H' (upd g q (dG (fQ ca p).1))/\Step b H H':=by
 refine kQ rfl rfl (ag6 _ _ _ _) ?_;have L1:=(Loc.of G).newL (ty:=112) (xs:=p.av) (r:=H.next) (aU p) rfl;have L2:=L1.newL (ty:=112) (xs:=zP9) (r:=H.next+1) rfl (by rw [eX]);have s2:Step b H _:=(Step.new (.blk 0 112 p.av) G.1).trans (Step.new (.blk 0 112 zP9) L1.good.1);have k0:iO (iO noL H.next p.av) (H.next+1) zP9 H.next=some p.av:=by rw [aC (by omega),ak]
 have p0:=L2.ld k0 (i:=0) (v:=I p.aS) rfl;have p4:=L2.ld k0 (i:=4) (v:=I p.aj) rfl;have pA:=L2.lda k0 (i:=0) (n:=9) (ys:=p.av) rfl rfl (by decide);have ck:=λH=>BL H p;have ez:bd 112 []=some (.agg zP9):=by simp only [xq_,rD,jf,eu]
 have hbK:((H.new (.blk 0 112 p.av)).new (.blk 0 112 zP9)).base<=b:=by rw [s2.base];exact hb
 by_cases h1:(!p.ok || decide (p.aS<3) || decide (6<p.aS))=true
 ·have hm:fQ ca p=(ca,.zero,1):=by simp only [fQ];rw [if_pos h1]
  rw [hm];obtain⟨K,z1,z2,z3,z4⟩:=L2.whole hbK ak (n:=9) (vs:=zP9) rfl rfl (by decide) rfl;refine⟨K,?_,by rw [fP h];exact z3.out,s2.trans z4⟩;cases hok:p.ok with
  |false=>
   rw [hok] at ck;simp only [Nat.reduceLT,Int.reduceEq,xq_,BA,aG (aU p),pA,ck,zam,ez,z1,z2,Y8,fO]
  |true=>
   rw [hok] at ck h1;by_cases h3:p.aS<3
   ·simp only [Nat.reduceLT,xq_,BA,aG (aU p),pA,ck,zaf,p0,h3,ez,z1,z2,Y8,fO]
   ·have h6:6<p.aS:=by simpa [h3] using h1
    simp only [Nat.reduceLT,xq_,BA,aG (aU p),pA,ck,zaf,p0,h3,h6,ez,z1,z2,Y8,fO]
 ·have hfn:ca.find p.aj=none:=hx.resolve_left h1;have hm:fQ ca p=(ca,.zero,3):=by simp only [fQ,hfn];rw [if_neg h1];rfl
  rw [hm];have hok:p.ok=true/\¬p.aS<3/\¬6<p.aS:=by
   cases ho:p.ok <;> simp_all
  have ef:=rO L2.good (L2.obj h) C.len C.dat p.aj;rw [hfn] at ef;simp only [ql,za5,zaK,vX] at ef;have LE:=L2.newL (ty:=166) (xs:=zE6) (r:=H.next+1+1) rfl (by rw [eX,eX]);have sE:Step b H _:=s2.trans (Step.new (.blk 0 166 zE6) L2.good.1);obtain⟨KE,x1,x2,ME,x4⟩:=LE.whole (by rw [sE.base];exact hb) ak (n:=6) (vs:=zE6) rfl rfl (by decide) rfl;have tE:=sE.trans x4;obtain⟨K,z1,z2,z3,z4⟩:=ME.whole (by rw [tE.base];exact hb) (r:=H.next+1) (xs:=zP9) (by rw [aC (by omega),aC (by omega),ak]) (n:=9) (vs:=zP9) rfl rfl (by decide) rfl;refine⟨K,?_,by rw [fP h];exact z3.out,tE.trans z4⟩;rw [hok.1] at ck;simp only [Nat.reduceLT,xq_,BA,aG (aU p),pA,ck,zaf,zam,p0,hok.2.1,hok.2.2,p4,ef,x1,ez,z1,z2,Y8,fO]
end
section
variable {b:Nat}{H:ah}{g:bD}{q:Nat}{ca:Cache}
def ae9(G:Good b H g)(hb:H.base<=b)(h:g q=some (dG ca))(C:COk ca)(p:Pkt)(hx:¬(!p.ok || decide (p.aS<3) || decide (6<p.aS))=true){e:Ent}(hfd:ca.find p.aj=some e):
  ∃H',cl 130 [.ref q 0 0,.agg p.av] H=some (Y8 (fQ ca p),H')/\Good b H' (upd g q (dG (fQ ca p).1))/\Step b H H':=by
 have hok:p.ok=true/\¬p.aS<3/\¬6<p.aS:=by
  cases ho:p.ok <;> simp_all
 have he:e.data.length<1000000000:=C.dat e (zba hfd);refine kQ rfl rfl (ag6 _ _ _ _) ?_;have L1:=(Loc.of G).newL (ty:=112) (xs:=p.av) (r:=H.next) (aU p) rfl;have L2:=L1.newL (ty:=112) (xs:=zP9) (r:=H.next+1) rfl (by rw [eX]);have s2:Step b H _:=(Step.new (.blk 0 112 p.av) G.1).trans (Step.new (.blk 0 112 zP9) L1.good.1);have k0:iO (iO noL H.next p.av) (H.next+1) zP9 H.next=some p.av:=by rw [aC (by omega),ak]
 have p0:=L2.ld k0 (i:=0) (v:=I p.aS) rfl;have p4:=L2.ld k0 (i:=4) (v:=I p.aj) rfl;have pA:=L2.lda k0 (i:=0) (n:=9) (ys:=p.av) rfl rfl (by decide);have ck:=λH=>BL H p;have ef:=rO L2.good (L2.obj h) C.len C.dat p.aj;rw [hfd] at ef;simp only [ql,zav,zaL] at ef;have LE:=L2.newL (ty:=166) (xs:=zE6) (r:=H.next+1+1) rfl (by rw [eX,eX]);have sE:Step b H _:=s2.trans (Step.new (.blk 0 166 zE6) L2.good.1);obtain⟨KE,x1,x2,ME,x4⟩:=LE.whole (by rw [sE.base];exact hb) ak (n:=6) (vs:=e.av) rfl rfl (by decide) (lN e);have tE:=sE.trans x4;have nE:H.next+1+1<KE.next:=ME.good.lt (qK (g:=g) ak)
 have LO:=ME.newL (ty:=112) (xs:=zP9) (r:=KE.next) rfl rfl;have tO:=tE.trans (Step.new (.blk 0 112 zP9) ME.good.1);let out:Pkt:=⟨CZ p.aS,p.dst,p.src,p.id,p.aj,0,0,false,[]⟩
 have y0:∀{xs:List AV} {l:Lcl},True:=λ{_ _}=>trivial;obtain⟨K0,o1,o2,M0,o4⟩:=LO.whole (by rw [jB,tE.base];exact hb) (r:=KE.next) ak (n:=9) (vs:=out.av) rfl (bZ _) (by decide) (aU _);have t0:=tO.trans o4;have hbK:K0.base<=b:=by rw [t0.base];exact hb
 have ebd:bd 112 [(0,I (CZ p.aS)),(1,I p.dst),(2,I p.src),(3,I p.id),(4,I p.aj)]=some (.agg out.av):=by
  simp only [xq_,rD,jf,fK,HY,out,Pkt.av,EF];rfl
 have ea:=λH=>RI H p.aS;have m0:∀{l:Lcl},iO (iO (iO (iO (iO (iO noL H.next p.av) (H.next+1) zP9) (H.next+1+1) zE6) (H.next+1+1) e.av) KE.next zP9) KE.next out.av H.next=some p.av:=λ{_}=>by
  rw [aC (by omega),aC (by omega),aC (by omega),aC (by omega),aC (by omega),ak]
 have kE0:iO (iO (iO (iO (iO noL H.next p.av) (H.next+1) zP9) (H.next+1+1) zE6) (H.next+1+1) e.av) KE.next zP9 H.next=some p.av:=by
  rw [aC (by omega),aC (by omega),aC (by omega),aC (by omega),ak]
 have r0:=LO.ld kE0 (i:=0) (v:=I p.aS) rfl;have r1:=LO.ld kE0 (i:=1) (v:=I p.src) rfl;have r2:=LO.ld kE0 (i:=2) (v:=I p.dst) rfl;have r3:=LO.ld kE0 (i:=3) (v:=I p.id) rfl;have r4:=LO.ld kE0 (i:=4) (v:=I p.aj) rfl;have q0:=M0.ld (m0 (l:=noL)) (i:=0) (v:=I p.aS) rfl;have q5:=M0.ld (m0 (l:=noL)) (i:=5) (v:=I p.ptr) rfl;rw [hok.1] at ck;by_cases h4:p.aS=4
 ·have hm:fQ ca p=((ca.put { e with fwd:=p.ptr }).1,out,(ca.put { e with fwd:=p.ptr }).2):=by
   simp only [fQ,hfd];rw [if_neg hx,if_neg (by omega),if_pos h4]
  rw [hm];obtain⟨K1,u1,M1,w1⟩:=M0.st hbK (r:=H.next+1+1) (xs:=e.av) (by rw [aC (by omega),aC (by omega),ak]) (i:=0) (v:=I p.ptr) (by simp [Ent.av]) dO;have t1:=t0.trans w1;obtain⟨H',f1,f2,f3⟩:=O4 M1 (by rw [t1.base];exact hb) h C { e with fwd:=p.ptr } he out (r4:=H.next+1) (r6:=H.next+1+1) (r8:=KE.next) (by rw [aC (by omega),aC (by omega),aC (by omega),aC (by omega),aC (by omega),ak]) (by rw [ak];rfl) (by rw [aC (by omega),ak]);refine⟨H',?_,f2,t1.trans f3⟩;have sf:=acr _ _ _ _ u1;rw [h4] at q0;simp only [Nat.reduceLT,Int.reduceEq,xq_,BA,aG (aU p),pA,ck,zaf,p0,hok.2.1,hok.2.2,p4,ef,x1,r0,ea,r1,r2,r3,r4,ebd,o1,q0,q5,sf,f1,Y8]
 ·by_cases h5:p.aS=5
  ·have hm:fQ ca p=((ca.put { e with back:=p.ptr }).1,out,(ca.put { e with back:=p.ptr }).2):=by
    simp only [fQ,hfd];rw [if_neg hx,if_neg (by omega),if_neg h4,if_pos h5]
   rw [hm];obtain⟨K1,u1,M1,w1⟩:=M0.st hbK (r:=H.next+1+1) (xs:=e.av) (by rw [aC (by omega),aC (by omega),ak]) (i:=1) (v:=I p.ptr) (by simp [Ent.av]) dO;have t1:=t0.trans w1;obtain⟨H',f1,f2,f3⟩:=O4 M1 (by rw [t1.base];exact hb) h C { e with back:=p.ptr } he out (r4:=H.next+1) (r6:=H.next+1+1) (r8:=KE.next) (by rw [aC (by omega),aC (by omega),aC (by omega),aC (by omega),aC (by omega),ak]) (by rw [ak];rfl) (by rw [aC (by omega),ak]);refine⟨H',?_,f2,t1.trans f3⟩;have sf:=LM _ _ 0 _ u1;rw [h5] at q0;simp only [Nat.reduceLT,Int.reduceEq,xq_,BA,aG (aU p),pA,ck,zaf,p0,hok.2.1,hok.2.2,p4,ef,x1,r0,ea,r1,r2,r3,r4,ebd,o1,q0,q5,sf,f1,Y8]
  ·have zE:iO (iO (iO (iO (iO (iO noL H.next p.av) (H.next+1) zP9) (H.next+1+1) zE6) (H.next+1+1) e.av) KE.next zP9) KE.next out.av (H.next+1+1)=some e.av:=by rw [aC (by omega),aC (by omega),ak]
   have g5:=M0.ld zE (i:=5) (v:=dat e.data) rfl;have g4:=M0.ld zE (i:=4) (v:=B e.dn) rfl;have g0:=M0.ld zE (i:=0) (v:=I e.fwd) rfl;obtain⟨K1,u1,M1,w1⟩:=M0.st hbK (r:=KE.next) ak (i:=8) (v:=dat e.data) (by simp [Pkt.av]) tV;have t1:=t0.trans w1;obtain⟨K2,u2,M2,w2⟩:=M1.st (by rw [t1.base];exact hb) (r:=KE.next) ak (i:=7) (v:=B e.dn) (by simp [Pkt.av]) Fb;have t2:=t1.trans w2;have c1:∀{β:Type} (o:Nat) (k:Option β),Proofs.YtljogojaihgdlaaGreat.ck (bT (.ref (H.next+1+1) 0 o)) K0 K1 k=k:=λo k=>wP (qg u1 (by omega));have c2:∀{β:Type} (o:Nat) (k:Option β),Proofs.YtljogojaihgdlaaGreat.ck (bT (.ref (H.next+1+1) 0 o)) K1 K2 k=k:=λo k=>wP (qg u2 (by omega));by_cases h3:p.aS=3
   ·have hm:fQ ca p=((ca.put { e with dn:=false,back:=p.ptr }).1,{ out with data:=e.data,flag:=e.dn },(ca.put { e with dn:=false,back:=p.ptr }).2):=by
     simp only [fQ,hfd];rw [if_neg hx,if_pos h3]
    rw [hm];obtain⟨K3,u3,M3,w3⟩:=M2.st (by rw [t2.base];exact hb) (r:=H.next+1+1) (xs:=e.av) (by rw [aC (by omega),aC (by omega)];exact zE) (i:=4) (v:=B false) (by simp [Ent.av]) Fb;have t3:=t2.trans w3;have q5':=M3.ld (r:=H.next) (xs:=p.av) (i:=5) (v:=I p.ptr) (by rw [aC (by omega),aC (by omega),aC (by omega)];exact m0 (l:=noL)) rfl;obtain⟨K4,u4,M4,w4⟩:=M3.st (by rw [t3.base];exact hb) (r:=H.next+1+1) ak (i:=1) (v:=I p.ptr) (by simp [Ent.av]) dO;have t4:=t3.trans w4;obtain⟨H',f1,f2,f3⟩:=O4 M4 (by rw [t4.base];exact hb) h C { e with dn:=false,back:=p.ptr } he { out with data:=e.data,flag:=e.dn } (r4:=H.next+1) (r6:=H.next+1+1) (r8:=KE.next) (by rw [aC (by omega),aC (by omega),aC (by omega),aC (by omega),aC (by omega),aC (by omega),aC (by omega),aC (by omega),ak]) (by rw [ak];rfl) (by rw [aC (by omega),aC (by omega),ak];rfl);refine⟨H',?_,f2,t4.trans f3⟩;have sf:=LM _ _ 0 _ u4;rw [h3] at q0;simp only [Nat.reduceLT,Int.reduceEq,xq_,BA,aG (aU p),pA,ck,zaf,p0,hok.2.1,hok.2.2,p4,ef,x1,r0,ea,r1,r2,r3,r4,ebd,o1,q0,g5,g4,u1,u2,c1,u3,q5',sf,f1,Y8]
   ·have h6:p.aS=6:=by omega
    have hm:fQ ca p=(ca.drop p.aj,{ out with data:=e.data,flag:=e.dn,ptr:=e.fwd },0):=by
     simp only [fQ,hfd];rw [if_neg hx,if_neg h3,if_neg h4,if_neg h5]
    rw [hm];obtain⟨K3,u3,M3,w3⟩:=M2.st (by rw [t2.base];exact hb) (r:=KE.next) ak (i:=5) (v:=I e.fwd) (by simp [Pkt.av]) dO;have t3:=t2.trans w3;have q4:=M3.ld (r:=H.next) (xs:=p.av) (i:=4) (v:=I p.aj) (by rw [aC (by omega),aC (by omega),aC (by omega)];exact m0 (l:=noL)) rfl;obtain⟨K4,a1,a2,a3⟩:=Ja M3.good (by rw [t3.base];exact hb) (M3.obj h) C.len C.dat p.aj;have M4:=M3.call h a2;have t4:=t3.trans a3;have lo:=M4.lda (r:=KE.next) ak (i:=0) (n:=9) (ys:=({ out with data:=e.data,flag:=e.dn,ptr:=e.fwd }:Pkt).av) rfl rfl (by decide);obtain⟨K5,v1,v2,v3,v4⟩:=M4.whole (by rw [t4.base];exact hb) (r:=H.next+1) (xs:=zP9) (by rw [aC (by omega),aC (by omega),aC (by omega),aC (by omega),aC (by omega),aC (by omega),aC (by omega),ak]) (n:=9) (vs:=({ out with data:=e.data,flag:=e.dn,ptr:=e.fwd }:Pkt).av) rfl (bZ _) (by decide) (aU _);refine⟨K5,?_,v3.out,t4.trans v4⟩;rw [h6] at q0;simp only [Nat.reduceLT,Int.reduceEq,xq_,BA,aG (aU p),pA,ck,zaf,p0,hok.2.1,hok.2.2,p4,ef,x1,r0,ea,r1,r2,r3,r4,ebd,o1,q0,g5,g4,g0,u1,u2,u3,c1,c2,q4,a1,lo,v1,v2,Y8]
end
section
variable {b:Nat}{H:ah}{g:bD}{q d tt:Nat}{c:Cfg}{me:Int}{h:Home}
def Yy(G:Good b H g)(N:oL g q d tt c me h)(T:TOk h.aT):cl 78 [.ref q 0 0] H=some (B (decide (h.ready≠[])),H):=by
 refine dD rfl rfl (arW _ _ _) ?_ iD;have k:=G.guard.load N.1 (i:=1) (x:=.ref tt 0 0) rfl;have j:=LJ G.guard N.2.2 T;have m:=(kY H.guard h.ready).lnS;have o:h.aT.ready (srt [] (h.aT.wait.map (·.1)))=h.ready:=rfl;rw [o] at j;by_cases e:h.ready=[]
 ·have:¬(0:Int)<(h.ready.length:Int):=by rw [e];decide
  simp only [xq_,ajc,k,j,e,ne_eq,not_true_eq_false]
  try rfl
 ·have:(0:Int)<(h.ready.length:Int):=by
   cases p:h.ready with
   |nil=>exact absurd p e
   |cons a l=>simp only [zal];omega
  simp only [xq_,ajc,k,j,m,this,e,ne_eq,not_false_eq_true]
end
section
variable {b:Nat}{H:ah}{g:bD}{q d tt:Nat}{c:Cfg}{me:Int}{h:Home}
def afa(G:Good b H g)(hb:H.base<=b)(N:oL g q d tt c me h)(T:TOk h.aT)(hr:∀e∈h.dJ,e.2.data.length<1000000000):
  ∃H',cl 80 [.ref q 0 0] H=some (.tup [.agg (h.grant me).2.1.av,B (h.grant me).2.2],H')/\Good b H' (lQ g d tt c (h.grant me).1)/\Step b H H':=by
 refine kQ rfl rfl (arY _ _ _) ?_;have L:=(Loc.of G).newL (ty:=112) (xs:=zP9) (r:=H.next) rfl rfl;have s1:Step b H _:=Step.new (.blk 0 112 zP9) G.1;have hbK:(H.new (.blk 0 112 zP9)).base<=b:=by rw [jB];exact hb
 have l1:=L.good.load (L.obj N.1) (i:=1) (x:=.ref tt 0 0) rfl;have e1:=LJ L.good (L.obj N.2.2) T;have e2:=(kY (H.new (.blk 0 112 zP9)) h.ready).lnS;have hre:h.aT.ready (srt [] (h.aT.wait.map (·.1)))=h.ready:=rfl;rw [hre] at e1;have ez:bd 112 []=some (.agg zP9):=by simp only [xq_,rD,jf,eu]
 cases hz:h.ready with
 |nil=>
  have hm:h.grant me=(h,.zero,false):=by simp only [Home.grant,hz]
  rw [hm,F6 N];obtain⟨K,z1,z2,z3,z4⟩:=L.whole hbK ak (n:=9) (vs:=zP9) rfl rfl (by decide) rfl;refine⟨K,?_,z3.out,s1.trans z4⟩;rw [hz] at e1 e2;have n0:¬((0:Int)<((([]:List Int).length:Nat):Int)):=by decide
  simp only [xq_,aje,l1,e1,e2];rw [aaL];simp only [xq_,n0,ez,z1,z2,fO]
 |cons aj rest=>
  obtain⟨m1,m2,_⟩:=uI hz;obtain⟨w,ws,hw⟩:∃w ws,h.aT.ws aj=w::ws:=by
   cases hx:h.aT.ws aj with
   |nil=>exact absurd hx m2
   |cons a l=>exact⟨a,l,rfl⟩
  have hn:h.aT.next aj=(⟨mM h.aT.gG aj w.1,mM h.aT.wait aj ws⟩,some w):=by simp only [Turns.next,m1,hw,zai,if_false]
  have hm:h.grant me=({ h with aT:=(h.aT.next aj).1 },granted h.dJ me aj w.1 w.2,true):=by simp only [Home.grant,hz,hn]
  rw [hm];obtain⟨K1,a1,a2,a3⟩:=abZ L.good hbK (L.obj N.2.2) T.nd aj (T.ws aj);have M:=L.call N.2.2 a2;have NK:=N.ajV { h with aT:=(h.aT.next aj).1 };rw [Ac N] at NK ⊢;have NL:oL (lay (upd g tt (iR (h.aT.next aj).1)) (iO noL H.next zP9)) q d tt c me { h with aT:=(h.aT.next aj).1 }:=⟨M.obj NK.1,M.obj NK.2.1,M.obj NK.2.2⟩
  have gr:=LH M.good NL hr aj w.1 w.2;obtain⟨K,z1,z2,z3,z4⟩:=M.whole (by rw [a3.base];exact hbK) ak (n:=9) (vs:=(granted h.dJ me aj w.1 w.2).av) rfl (bZ _) (by decide) (aU _);refine⟨K,?_,z3.out,(s1.trans a3).trans z4⟩;have hs:=kY (H.new (.blk 0 112 zP9)) h.ready;have x1:=hs.ix (k:=.i64) (i:=(0:Int)) (by omega) (by rw [hz];simp only [zal];omega);have x2:=hs.ld (i:=0) (by rw [hz];simp);rw [hz] at x1 x2 e1 e2;simp only [zax,zaT,zak] at x2;rw [show((0:Int).toNat)=0 from rfl] at x1;have n0:(0:Int)<(((aj::rest).length:Nat):Int):=by simp only [zal];omega
  rw [hn] at a1;simp only [ao0,zav,zaL] at a1;simp only [xq_,aje,l1,e1,e2];rw [aaL];simp only [xq_,n0,x1,x2,l1,a1,gr,z1,z2]
end
structure NS(c:Cfg)(me:Int)(n:Node)(r:jE):Prop where
 sim:ap5 c me n r
 rok:(r.homes.aT.owner.map (·.1)).Nodup
 rge:∀o∈r.homes.aT.owner,0<=o.2
def NS.cs {c:Cfg}{me:Int}{n:Node}{r:jE}(S:NS c me n r):Dh n.aH r.aH:=⟨S.sim.sets,S.sim.ways,S.sim.dh,S.sim.sorted,S.sim.perm⟩
def NS.hs {c:Cfg}{me:Int}{n:Node}{r:jE}(S:NS c me n r):KW c me n.home r.homes:=⟨S.sim.dJ,S.sim.none,⟨S.sim.owner,S.sim.waits,S.rok,S.rge⟩⟩
def NS.of {c:Cfg}{me:Int}{n:Node}{r:jE}(C:Dh n.aH r.aH)(H:KW c me n.home r.homes)(b:r.ops=n.bQ.ops)(d:r.bH=n.bQ.bH)(e:r.eG=n.bQ.eG)(g:r.has=!decide (n.aI.step=0))(h:r.aI=if n.aI.step=0 then .zero else n.aI)(i:r.num=n.num):NS c me n r:=
 ⟨⟨b,d,e,g,h,i,C.sets,C.ways,C.dh,C.sorted,C.perm,H.dJ,H.none,H.aT.owner,H.aT.waits⟩,H.aT.rok,H.aT.rge⟩
structure auA(c:Cfg)(o:Opn):Prop where
 k1:1<=o.aS
 k4:o.aS<=4
 aj:c.bU o.addr=o.addr.tdiv c.bI
 lo:0<=c.bU o.addr
 hi:c.bU o.addr<c.aY
 word:c.dI o.addr=o.addr.tmod c.bI
 wlo:0<=c.dI o.addr
 whi:c.dI o.addr<c.bI
def aqd {c:Cfg}(hc:c.ok=true){o:Opn}(h:c.right o=true):auA c o:=by
 obtain⟨_,m,hw,_⟩:=nK hc;unfold Cfg.right at h;simp only [zah,decide_eq_true_eq] at h;obtain⟨⟨⟨i,j⟩,k⟩,_⟩:=h;have b:¬(o.addr<0∨c.kU<=o.addr):=λe=>k (by unfold Cfg.bU;rw [if_pos e]);simp only [not_or] at b;have d:c.bU o.addr=o.addr / c.bI:=by unfold Cfg.bU;rw [if_neg (by simp only [not_or];exact b)]
 have g:c.dI o.addr=o.addr % c.bI:=by unfold Cfg.dI;rw [if_neg (by simp only [not_or];exact b)]
 have ha:o.addr<c.aY*c.bI:=by have:=b.2;unfold Cfg.kU at this;omega
 refine⟨i,j,?_,?_,?_,?_,?_,?_⟩
 ·rw [d,Int.tdiv_eq_ediv_of_nonneg V]
 ·rw [d];exact zdB V V
 ·rw [d];exact Int.ediv_lt_of_lt_mul V ha
 ·rw [g,zbS V]
 ·rw [g];exact zch _ V
 ·rw [g];exact zct _ V
def rQ(e:Ent)(o:Opn)(w:Int):(eU e o w).aj=e.aj/\(eU e o w).used=e.used/\(eU e o w).dn=e.dn/\(eU e o w).data.length=e.data.length:=by
 unfold eU;split
 ·unfold Ent.write;split <;> simp
 ·split
  ·unfold Ent.write;split <;> simp
  ·simp
def Yz {c:Cfg}{e:Ent}{o:Opn}{w:Int}(hd:qB c e.data)(d:I64 o.value):qB c (eU e o w).data:=by
 refine⟨by rw [(rQ e o w).2.2.2];exact hd.1,?_⟩;have key:∀v,I64 v->∀x∈(e.write w v).data,I64 x:=by
  intro v hv x b;unfold Ent.write at b;split at b
  ·rcases zbV b with h|h
   ·exact hd.2 x h
   ·rw [h];exact hv
  ·exact hd.2 x b
 unfold eU;split
 ·exact key _ d
 ·split
  ·exact key _ (al0 _)
  ·exact hd.2
structure Eff(c:Cfg)(me:Int)(n:Node)(r:jE)(t:List Evn)(A:NT)(B:RNT):Prop where
 sim:Dh A.1.aH B.1.aH
 rest:B.1={ r with aH:=B.1.aH,bH:=n.bQ.bH++[A.2.getLast?.elim 0 (·.value)],eG:=false }
 asN:A.1={ n with aH:=A.1.aH,bQ:=⟨n.bQ.ops,n.bQ.bH++[A.2.getLast?.elim 0 (·.value)],false⟩ }
 ev:B.2=A.2
 inv:Fj c A.1.aH
 len:A.2.length=t.length+1
def O5 {ca:Cache}(b:Lines ca.l){e:Ent}(h0:0<=e.aj)(g:ca.full e.aj=false):∃u,(ca.put e).1.find e.aj=some { e with used:=u }:=by
 cases h:ca.find e.aj with
 |some x=>
  refine⟨x.used,?_⟩;rw [lY b h0 h];obtain⟨i,d⟩:=(iJ b).1 h;unfold Cache.find;rw [iJ (Bh b λy _=>by
   split
   ·rename_i h;exact h.symm
   ·rfl)]
  exact⟨zaI.2 ⟨x,i,by rw [if_pos d]⟩,rfl⟩
 |none=>
  refine⟨ca.dh+1,?_⟩;unfold Cache.put;rw [if_neg V,zX.2 h];simp only [g,zai,if_false];unfold Cache.find;rw [zdO];have:(ca.l.find? λx=>decide (x.aj=e.aj))=none:=h;rw [this];simp
def Jh(ca:Cache)(e:Ent):(ca.put e).1.dh<=ca.dh+1:=by
 unfold Cache.put;split
 ·simp only;omega
 ·split
  ·simp only;omega
  ·split <;> simp only <;> omega
def DT(ca:Cache)(aj:Int):(ca.drop aj).dh=ca.dh:=by
 unfold Cache.drop;split <;> rfl
def tC(me:Int)(n:Node)(p:Pkt):n.after me p=Ep n.aI me n.aH p:=rfl
def BU {d:bM}{me:Int}{ca:Cache}{p:Pkt}(h:d.fits p=false):Ep d me ca p=wQ ca:=by
 have b:dX d me ca p=wQ ca:=by unfold dX;rw [if_pos (.inr h)]
 have e:dY d me ca p=wQ ca:=by unfold dY;rw [if_pos (.inr h)]
 have g:eF d ca p=wQ ca:=by unfold eF;rw [if_pos (.inr h)]
 unfold Ep;rw [b,e,g];split
 ·rfl
 ·split
  ·rfl
  ·split <;> rfl
def acs {d:bM}{p:Pkt}(h:d.fits p=true):p.aS=CZ (AU d.step):=by
 unfold bM.fits at h;simp only [zah,decide_eq_true_eq] at h;exact h.1.1.2
structure Ji(c:Cfg)(d:bM)(ca:Cache)(d':bM)(ca':Cache):Prop where
 inv:Fj c ca'
 aj:d'.aj=d.aj
 aS:d'.aS=d.aS
 dat:d'.data=[]∨qB c d'.data
 aiK:d'.aS=2->d'.step=3->qB c d'.data
 clk:ca'.dh<=ca.dh∨(d.aS≠3/\d'.step=6/\ca'.dh<=ca.dh+1)
 way:(d.step=6/\d'.step=0/\ca'=ca)∨(d'.step≠0/\d.step≠6/\(d.aS≠3->(d'.step≠6/\ca'=ca)∨(d'.step=6/\∃e,ca'.find d.aj=some e/\(d.aS=2->e.dn=true))))
def Xf {c:Cfg}{ca:Cache}(I:Fj c ca){d:bM}{me:Int}(h0:0<=d.aj)(q:d.aj<c.aY)(v:ca.full d.aj=false)(hd:qB c d.data)(hk:d.aS=2)(hs:d.step≠6){g:bM}(i:g.aj=d.aj)(j:g.aS=d.aS)(o:g.step≠6):
  Ji c g ca (dF d me ca).2 (dF d me ca).1:=by
 have key:∀d':bM,d'.aj=d.aj->d'.aS=d.aS->d'.data=d.data->Ji c g ca (if d'.next≠-1 then(ca,{ d' with step:=3 }) else((ca.put ⟨-1,-1,d'.aj,0,true,d'.data⟩).1,{ d' with step:=6,aV:=2,head:=me,data:=[] })).2 (if d'.next≠-1 then(ca,{ d' with step:=3 }) else((ca.put ⟨-1,-1,d'.aj,0,true,d'.data⟩).1,{ d' with step:=6,aV:=2,head:=me,data:=[] })).1:=by
  intro d' b p k;by_cases h:d'.next≠-1
  ·rw [if_pos h];exact⟨I,by rw [i];exact b,by rw [j];exact p,.inr (by simp only [k];exact hd),λ_ _=>by simp only [k];exact hd,.inl (za2 _),.inr ⟨O,o,λ_=>.inl ⟨O,rfl⟩⟩⟩
  ·rw [if_neg h];obtain⟨u,w⟩:=O5 I.aY (e:=⟨-1,-1,d'.aj,0,true,d'.data⟩) (by simp only [b];exact h0) (by simp only [b];exact v);have m:(ca.put ⟨-1,-1,d'.aj,0,true,d'.data⟩).1.find g.aj=some ⟨-1,-1,d'.aj,u,true,d'.data⟩:=by
    rw [i,<-b];exact w
   exact⟨I.put (by simp only [b];exact h0) (by simp only [b];exact q) (by simp only [k];exact hd),by rw [i];exact b,by rw [j];exact p,.inl rfl,λ_ h=>by simp at h,.inr ⟨by rw [j,hk];decide,rfl,Jh _ _⟩,.inr ⟨O,o,λ_=>.inr ⟨rfl,_,m,λ_=>rfl⟩⟩⟩
 unfold dF;cases ca.find d.aj with
 |none=>exact key d rfl rfl rfl
 |some own=>
  by_cases h:d.next=me
  ·simp only [if_pos h];exact key { d with next:=own.fwd } rfl rfl rfl
  ·simp only [if_neg h];exact key d rfl rfl rfl
def O6 {c:Cfg}{n:Node}{me:Int}(I:Fj c n.aH)(D:agH c n)(hs0:n.aI.step≠0){p:Pkt}(Q:yV c p){ca:Cache}{d:bM}(h:Ep n.aI me n.aH p=(ca,d,true)):Ji c n.aI n.aH d ca:=by
 have hf:n.aI.fits p=true:=by
  cases e:n.aI.fits p with
  |true=>rfl
  |false=>rw [BU e] at h;simp [wQ] at h
 have hpk:=acs hf;have asO:n.aI.step=1->qB c p.data:=λe=>Q.dat (.inl (by rw [hpk,e];rfl));have asP:n.aI.step=2∨n.aI.step=3->qB c p.data:=λe=>Q.dat (.inr (by rcases e with e|e <;> rw [hpk,e] <;> rfl));have s6:n.aI.step=6->(n.aH,{ n.aI with step:=0 },true)=(ca,d,true)->Ji c n.aI n.aH d ca:=λs e=>by
  simp only [zad,and_true] at e;obtain⟨rfl,rfl⟩:=e;exact⟨I,rfl,rfl,D.dat,λ_ h=>by simp at h,.inl (za2 _),.inl ⟨s,rfl,rfl⟩⟩
 unfold Ep at h;by_cases k1:n.aI.aS=1
 ·rw [if_pos k1] at h;unfold dX at h;rw [if_neg (show¬(n.aI.aS≠1∨n.aI.fits p=false) by rw [hf];rintro(h|h) <;> first|omega|cases h)] at h;have W:=D.work (by omega);by_cases t1:n.aI.step=1
  ·rw [if_pos t1] at h;have W:=W (by omega);by_cases p0:p.aV≠0
   ·rw [if_pos p0] at h;simp only [zad,and_true] at h;obtain⟨rfl,rfl⟩:=h;exact⟨I,rfl,rfl,.inr (asO t1),λh=>by simp only at h;omega,.inl (za2 _),.inr ⟨by simp,by omega,λ_=>.inl ⟨by simp,rfl⟩⟩⟩
   ·rw [if_neg p0] at h;simp only [zad,and_true] at h;obtain⟨rfl,rfl⟩:=h;obtain⟨u,hu⟩:=O5 I.aY (e:=⟨-1,-1,n.aI.aj,0,false,p.data⟩) D.lo W.full;exact⟨I.put D.lo D.hi (asO t1),rfl,rfl,.inl rfl,λ_ h=>by simp at h,.inr ⟨by omega,rfl,Jh _ _⟩,.inr ⟨by simp,by omega,λ_=>.inr ⟨rfl,_,hu,λh=>by omega⟩⟩⟩
  rw [if_neg t1] at h;by_cases t2:n.aI.step=2
  ·rw [if_pos t2] at h;have W:=W (by omega);simp only [zad,and_true] at h;obtain⟨rfl,rfl⟩:=h;obtain⟨u,hu⟩:=O5 I.aY (e:=⟨n.aI.head,-1,n.aI.aj,0,false,p.data⟩) D.lo W.full;refine⟨I.put D.lo D.hi (asP (.inl t2)),rfl,rfl,?_,λh=>by simp only at h;omega,.inr ⟨by omega,rfl,Jh _ _⟩,.inr ⟨by simp,by omega,λ_=>.inr ⟨rfl,_,hu,λh=>by omega⟩⟩⟩;simp only;split
   ·exact .inr (asP (.inl t2))
   ·exact .inl rfl
  rw [if_neg t2] at h;by_cases t6:n.aI.step=6
  ·rw [if_pos t6] at h;exact s6 t6 h
  ·rw [if_neg t6] at h;simp [wQ] at h
 rw [if_neg k1] at h;by_cases k2:n.aI.aS=2
 ·rw [if_pos k2] at h;unfold dY at h;rw [if_neg (show¬(n.aI.aS≠2∨n.aI.fits p=false) by rw [hf];rintro(h|h) <;> first|omega|cases h)] at h;have W:=D.work (by omega);by_cases t1:n.aI.step=1
  ·rw [if_pos t1] at h;have W:=W (by omega);simp only [zad,and_true] at h;obtain⟨rfl,rfl⟩:=h;have key:∀dt,qB c dt->Ji c n.aI n.aH (dF { n.aI with aV:=p.aV,head:=p.ptr,told:=p.ptr,data:=dt,next:=p.ptr } me n.aH).2 (dF { n.aI with aV:=p.aV,head:=p.ptr,told:=p.ptr,data:=dt,next:=p.ptr } me n.aH).1:=λdt hdt=>
    Xf (d:={ n.aI with aV:=p.aV,head:=p.ptr,told:=p.ptr,data:=dt,next:=p.ptr }) I D.lo D.hi W.full hdt k2 (show n.aI.step≠6 by omega) rfl rfl (by omega)
   cases hfd:n.aH.find n.aI.aj with
   |none=>exact key _ (asO t1)
   |some e=>exact key _ (I.ent e ((iJ I.aY).1 hfd).1).dat
  rw [if_neg t1] at h;by_cases t3:n.aI.step=3
  ·rw [if_pos t3] at h;have W:=W (by omega);simp only [zad,and_true] at h;obtain⟨rfl,rfl⟩:=h;have key:∀dt,qB c dt->Ji c n.aI n.aH (dF { n.aI with data:=dt,next:=p.ptr } me n.aH).2 (dF { n.aI with data:=dt,next:=p.ptr } me n.aH).1:=λdt hdt=>
    Xf (d:={ n.aI with data:=dt,next:=p.ptr }) I D.lo D.hi W.full hdt k2 (show n.aI.step≠6 by omega) rfl rfl (by omega)
   cases hfd:n.aH.find n.aI.aj with
   |none=>exact key _ (asP (.inr t3))
   |some e=>exact key _ (D.aiK k2 t3)
  rw [if_neg t3] at h;by_cases t6:n.aI.step=6
  ·rw [if_pos t6] at h;exact s6 t6 h
  ·rw [if_neg t6] at h;simp [wQ] at h
 rw [if_neg k2] at h;have k3:n.aI.aS=3:=by have:=D.aS;omega
 rw [if_pos k3] at h;unfold eF at h;rw [if_neg (show¬(n.aI.aS≠3∨n.aI.fits p=false) by rw [hf];rintro(h|h) <;> first|omega|cases h)] at h;have no3:∀{P:Prop},n.aI.aS≠3->P:=λh=>absurd k3 h;by_cases t1:n.aI.step=1
 ·rw [if_pos t1] at h;cases hfd:n.aH.find n.aI.aj with
  |none=>
   simp only [hfd,zad,and_true] at h;obtain⟨rfl,rfl⟩:=h;exact⟨I,rfl,rfl,.inl rfl,λh=>by simp only at h;omega,.inl (za2 _),.inr ⟨by simp,by omega,no3⟩⟩
  |some e=>
   simp only [hfd] at h;have E:=I.ent e ((iJ I.aY).1 hfd).1;by_cases b1:e.back=-1/\e.fwd=-1
   ·simp only [if_pos b1,zad,and_true] at h;obtain⟨rfl,rfl⟩:=h;refine⟨I.drop _,rfl,rfl,?_,λh=>by simp only at h;omega,.inl (by rw [DT];exact za2 _),.inr ⟨by simp,by omega,no3⟩⟩;simp only;split
    ·exact .inr E.dat
    ·exact .inl rfl
   ·simp only [if_neg b1] at h;by_cases b2:e.back=-1
    ·simp only [if_pos b2,zad,and_true] at h;obtain⟨rfl,rfl⟩:=h;exact⟨I,rfl,rfl,.inl rfl,λh=>by simp only at h;omega,.inl (za2 _),.inr ⟨by simp,by omega,no3⟩⟩
    ·simp only [if_neg b2,zad,and_true] at h;obtain⟨rfl,rfl⟩:=h;exact⟨I,rfl,rfl,.inl rfl,λh=>by simp only at h;omega,.inl (za2 _),.inr ⟨by simp,by omega,no3⟩⟩
 rw [if_neg t1] at h;have out:∀hd,gW n.aI n.aH hd=(ca,d,true)->n.aI.step≠6->Ji c n.aI n.aH d ca:=λhd e hs=>by
  simp only [gW,zad,and_true] at e;obtain⟨rfl,rfl⟩:=e;exact⟨I.drop _,rfl,rfl,.inl rfl,λh=>by simp only at h;omega,.inl (by rw [DT];exact za2 _),.inr ⟨by simp,hs,no3⟩⟩
 by_cases t4:n.aI.step=4
 ·rw [if_pos t4] at h;split at h
  ·exact out _ h (by omega)
  ·simp only [zad,and_true] at h;obtain⟨rfl,rfl⟩:=h;exact⟨I,rfl,rfl,D.dat,λh=>by simp only at h;omega,.inl (za2 _),.inr ⟨by simp,by omega,no3⟩⟩
 rw [if_neg t4] at h;by_cases t5:n.aI.step=5
 ·rw [if_pos t5] at h;split at h
  ·exact out _ h (by omega)
  ·exact out _ h (by omega)
 rw [if_neg t5] at h;by_cases t6:n.aI.step=6
 ·rw [if_pos t6] at h;exact s6 t6 h
 ·rw [if_neg t6] at h;simp [wQ] at h
structure Td where
 a:Nat->Nat
 f:Nat
 P:Nat->Nat->Nat
 t:Nat
def ahX(S:Td)(k:Nat)(q:Nat):Prop:=(∃i,i<6/\q=S.a i)∨PN S.P k q∨q=S.t
structure NW(g:bD)(S:Td)(c:Cfg)(me:Int)(w:NFT):Prop where
 bF:uM g S.a c me w.1
 fab:iG g S.f S.P c w.2.1
 tr:g S.t=some (oC w.2.2)
 S9:UD S.P w.2.1.l.length
 tf:S.t≠S.f
def jK {g:bD}{x y:Nat}{A B:List Cell}(h:g x=some A)(b:g y=some B)(d:A.length≠B.length):x≠y:=λe=>by
 subst e;rw [h] at b;exact d (by rw [zaX b])
def apt {g:bD}{x y:Nat}{A B:List Cell}(h:g x=some A)(b:g y=some B)(d:A[1]?≠B[1]?):x≠y:=λe=>by
 subst e;rw [h] at b;exact d (by rw [zaX b])
section
variable {b:Nat}{K K':ah}{g g':bD}{ls:Lcl}{S:Td}{c:Cfg}{me:Int}{w:NFT}
def iq {a:Nat->Nat}{d:bM}{num:Int}:(xU a c me d num).length=22:=by simp [xU,OI,Cfg.av,bM.av]
def oM {l:List Evn}:(oC l).length=1:=rfl
def kJ {P:Nat->Nat->Nat}{n:Nat}:(aeG P n).length=1:=rfl
def gK {ca:Cache}:(dG ca).length=4:=rfl
def iW {p:Proc}:(rY p).length=3:=rfl
def gQ {t:Turns}:(iR t).length=2:=rfl
def jV {l:List Pkt}{r:Int}:(oz l r).length=2:=rfl
def kK {r:Rows}:(EP c r).length=9:=by simp [EP,Cfg.av]
def jw {d t:Nat}:(ER d t c me).length=11:=by simp [ER,Cfg.av]
def NW.acu(N:NW g S c me w):(∀i,i<6->S.a i≠S.t):=λi hi=>by
 obtain⟨b,d,e,h,j,k⟩:=N.bF
 match i,hi with
 |0,_=>exact jK b N.tr (by simp only [iq,oM];decide)
 |1,_=>exact jK d N.tr (by simp only [oM,gK];decide)
 |2,_=>exact jK e N.tr (by simp only [oM,iW];decide)
 |3,_=>exact jK h N.tr (by simp only [oM,jw];decide)
 |4,_=>exact jK j N.tr (by simp only [oM,kK];decide)
 |5,_=>exact jK k N.tr (by simp only [oM,gQ];decide)
def NW.asQ(N:NW g S c me w):(∀i,i<6->S.a i≠S.f):=λi hi=>by
 obtain⟨b,d,e,j,k,m⟩:=N.bF;have h:=N.fab.1
 match i,hi with
 |0,_=>exact jK b h (by simp only [iq,kJ];decide)
 |1,_=>exact jK d h (by simp only [kJ,gK];decide)
 |2,_=>exact jK e h (by simp only [kJ,iW];decide)
 |3,_=>exact jK j h (by simp only [kJ,jw];decide)
 |4,_=>exact jK k h (by simp only [kJ,kK];decide)
 |5,_=>exact jK m h (by simp only [kJ,gQ];decide)
def NW.port {q:Nat}(N:NW g S c me w)(h:PN S.P w.2.1.l.length q):∃l r,g q=some (oz l r):=by
 obtain⟨i,s,hi,hs,rfl⟩:=h;exact⟨_,_,gX (N.fab.port hi) hs⟩
def NW.YA(N:NW g S c me w){q:Nat}(h:PN S.P w.2.1.l.length q):(∀i,i<6->S.a i≠q)/\S.t≠q/\S.f≠q:=by
 obtain⟨l,r,b⟩:=N.port h;obtain⟨d,e,j,k,m,o⟩:=N.bF;refine⟨λi hi=>?_,jK N.tr b (by simp only [oM,jV];decide),jK N.fab.1 b (by simp only [kJ,jV];decide)⟩
 match i,hi with
 |0,_=>exact jK d b (by simp only [iq,jV];decide)
 |1,_=>exact jK e b (by simp only [gK,jV];decide)
 |2,_=>exact jK j b (by simp only [iW,jV];decide)
 |3,_=>exact jK k b (by simp only [jV,jw];decide)
 |4,_=>exact jK m b (by simp only [jV,kK];decide)
 |5,_=>exact apt o b (by simp [iR,oz])
def iG.same {f:Nat}{P:Nat->Nat->Nat}{fab:Fab}(F:iG g f P c fab)(b:g' f=g f)(d:∀q,PN P fab.l.length q->g' q=g q):iG g' f P c fab:=
 ⟨by rw [b];exact F.1,λi p hi=>(F.2.1 i p hi).ext λs hs=>d _ ⟨i,s,(zae.1 hi).1,hs,rfl⟩,F.2.2⟩
def NW.set(N:NW g S c me w){n:Node}(b:uM g' S.a c me n)(h:∀q,(∀i,i<6->q≠S.a i)->g' q=g q):NW g' S c me (n,w.2):=by
 refine⟨b,N.fab.same (h _ λi hi=>(N.asQ i hi).symm) (λq d=>h _ λi hi=>((N.YA d).1 i hi).symm),?_,N.S9,N.tf⟩;rw [h _ λi hi=>(N.acu i hi).symm];exact N.tr
def Off.aqe {k:Nat}(h:∀q,(∀i,i<6->q≠S.a i)->g' q=g q):Off (ahX S k) g g':=λq b=>h q λi hi e=>b (.inl ⟨i,hi,e⟩)
def DU {i:Nat}(hi:i<6){cs:List Cell}:∀q,(∀i,i<6->q≠S.a i)->upd g (S.a i) cs q=g q:=λq b=>bn (b i hi)
def NW.aH(N:NW g S c me w)(ca:Cache):NW (upd g (S.a 1) (dG ca)) S c me ({ w.1 with aH:=ca },w.2):=by
 refine N.set ?_ (DU Z);have I:=N.bF;obtain⟨b,o,d,j,k,m⟩:=N.bF;have ne:∀i,i<6->i≠1->S.a i≠S.a 1:=λi hi h e=>h (I.inj hi Z e);exact⟨by rw [bn (ne 0 Z Z)];exact b,aQ,by rw [bn (ne 2 Z Z)];exact d,by rw [bn (ne 3 Z Z)];exact j,by rw [bn (ne 4 Z Z)];exact k,by rw [bn (ne 5 Z Z)];exact m⟩
def NW.bQ(N:NW g S c me w)(p:Proc):NW (upd g (S.a 2) (rY p)) S c me ({ w.1 with bQ:=p },w.2):=by
 refine N.set ?_ (DU Z);have I:=N.bF;obtain⟨b,d,o,j,k,m⟩:=N.bF;have ne:∀i,i<6->i≠2->S.a i≠S.a 2:=λi hi h e=>h (I.inj hi Z e);exact⟨by rw [bn (ne 0 Z Z)];exact b,by rw [bn (ne 1 Z Z)];exact d,aQ,by rw [bn (ne 3 Z Z)];exact j,by rw [bn (ne 4 Z Z)];exact k,by rw [bn (ne 5 Z Z)];exact m⟩
def NW.own(N:NW g S c me w)(d:bM)(num:Int):NW (upd g (S.a 0) (xU S.a c me d num)) S c me ({ w.1 with aI:=d,num:=num },w.2):=by
 refine N.set ?_ (DU Z);have I:=N.bF;obtain⟨p,b,j,k,m,o⟩:=N.bF;have ne:∀i,i<6->i≠0->S.a i≠S.a 0:=λi hi h e=>h (I.inj hi Z e);exact⟨aQ,by rw [bn (ne 1 Z Z)];exact b,by rw [bn (ne 2 Z Z)];exact j,by rw [bn (ne 3 Z Z)];exact k,by rw [bn (ne 4 Z Z)];exact m,by rw [bn (ne 5 Z Z)];exact o⟩
def NW.home(N:NW g S c me w)(h:Home):NW (lQ g (S.a 4) (S.a 5) c h) S c me ({ w.1 with home:=h },w.2):=by
 have I:=N.bF;obtain⟨d,k,m,o⟩:=N.bF;refine N.set ?_ λq b=>?_
 ·have ne:∀i j,i<6->j<6->i≠j->S.a i≠S.a j:=λi j hi p h e=>h (I.inj hi p e);refine⟨?_,?_,?_,o.ajV h⟩
  ·unfold lQ;rw [bn (ne 0 5 Z Z Z),bn (ne 0 4 Z Z Z)];exact d
  ·unfold lQ;rw [bn (ne 1 5 Z Z Z),bn (ne 1 4 Z Z Z)];exact k
  ·unfold lQ;rw [bn (ne 2 5 Z Z Z),bn (ne 2 4 Z Z Z)];exact m
 ·unfold lQ;rw [bn (b 5 Z),bn (b 4 Z)]
def NW.trace(N:NW g S c me w)(l:List Evn):NW (upd g S.t (oC l)) S c me (w.1,w.2.1,l):=by
 refine⟨N.bF.ext λs hs=>bn (N.acu s hs),N.fab.same (bn N.tf.symm) (λq b=>bn (N.YA b).2.1.symm),aQ,N.S9,N.tf⟩
def NW.net(N:NW g S c me w){fab:Fab}(F:iG g' S.f S.P c fab)(b:fab.l.length=w.2.1.l.length)(O:Off (PN S.P w.2.1.l.length) g g'):NW g' S c me (w.1,fab,w.2.2):=by
 have d:∀i,i<6->¬PN S.P w.2.1.l.length (S.a i):=λi hi h=>(N.YA h).1 i hi rfl;refine⟨N.bF.ext λs hs=>O _ (d s hs),F,?_,by rw [b];exact N.S9,N.tf⟩;rw [O _ λh=>(N.YA h).2.1 rfl];exact N.tr
def NW.sub(N:NW g S c me w)(h:sK g g'):NW g' S c me w:=
 ⟨N.bF.ext λs hs=>by obtain⟨l,b⟩:=N.bF.some hs;rw [b,h _ _ b],N.fab.sub h,h _ _ N.tr,N.S9,N.tf⟩
def Loc.sub(L:Loc b K g ls):sK g (lay g ls):=λq cs h=>L.obj h
def Loc.home(L:Loc b K g ls){d t:Nat}{cs cs':List Cell}(m:g d=some cs)(o:g t=some cs'){h:Home}(G:Good b K' (lQ (lay g ls) d t c h)):Loc b K' (lQ g d t c h) ls:=by
 have j:=(L.at_ m).2;have k:=(L.at_ o).2;unfold lQ at G ⊢;refine⟨by rw [OZ k,OZ j];exact G,λr i=>?_⟩;rw [bn (λe=>by subst e;exact i k),bn (λe=>by subst e;exact i j)];exact L.free r i
def Loc.net(L:Loc b K g ls){T:Nat->Prop}(j:∀q,T q->g q≠none){i:bD}(G:Good b K' i)(O:Off T (lay g ls) i):∃g',Loc b K' g' ls/\Off T g g'/\∀q,ls q=none->g' q=i q:=by
 let g':bD:=λq=>match ls q with
  |some _=>none
  |none=>i q
 have d:∀q,ls q=none->g' q=i q:=λq h=>by simp only [g',h]
 have e:lay g' ls=i:=by
  funext q
  cases h:ls q with
  |none=>simp only [lay,h];exact d q h
  |some xs=>
   have:¬T q:=λk=>j q k (L.free q (by rw [h];simp));rw [O q this];simp only [lay,h]
 refine⟨g',⟨by rw [e];exact G,λr m=>?_⟩,λq o=>?_,d⟩
 ·simp only [g'];cases h:ls r with
  |none=>exact absurd h m
  |some xs=>rfl
 ·cases h:ls q with
  |none=>rw [d q h,O q o];simp only [lay,h]
  |some xs=>
   simp only [g',h];rw [L.free q (by rw [h];simp)]
end
def NW.agree {g g':bD}{S:Td}{c:Cfg}{me:Int}{w:NFT}(N:NW g S c me w)(h:∀q,ahX S w.2.1.l.length q∨q=S.f->g' q=g q):NW g' S c me w:=
 ⟨N.bF.ext λs b=>h _ (.inl (.inl ⟨s,b,rfl⟩)),N.fab.same (h _ (.inr rfl)) λq d=>h _ (.inl (.inr (.inl d))),by rw [h _ (.inl (.inr (.inr rfl)))];exact N.tr,N.S9,N.tf⟩
def NW.here {g:bD}{S:Td}{c:Cfg}{me:Int}{w:NFT}(N:NW g S c me w){q:Nat}(h:ahX S w.2.1.l.length q):g q≠none:=by
 rcases h with⟨i,hi,rfl⟩|d|rfl
 ·obtain⟨l,b⟩:=N.bF.some hi;rw [b];simp
 ·obtain⟨l,r,b⟩:=N.port d;rw [b];simp
 ·rw [N.tr];simp
def atz(b:Nat)(H:ah)(g:bD)(S:Td)(c:Cfg)(me:Int)(k:Nat)(H':ah)(w':NFT):Prop:=
 ∃g',Good b H' g'/\NW g' S c me w'/\Off (ahX S k) g g'/\Step b H H'/\w'.2.1.l.length=k
structure Walk(b:Nat)(H:ah)(g0:bD)(S:Td)(c:Cfg)(me:Int)(k:Nat)(K:ah)(g:bD)(ls:Lcl)(w:NFT):Prop where
 hb:H.base<=b
 loc:Loc b K g ls
 nw:NW g S c me w
 off:Off (ahX S k) g0 g
 step:Step b H K
 len:w.2.1.l.length=k
section
variable {b:Nat}{H:ah}{g0:bD}{S:Td}{c:Cfg}{me:Int}{k:Nat}{K K':ah}{g:bD}{ls:Lcl}{w w':NFT}
def Walk.of {g:bD}(G:Good b H g)(hb:H.base<=b)(N:NW g S c me w):Walk b H g S c me w.2.1.l.length H g noL w:=⟨hb,Loc.of G,N,Off.refl _ _,Step.refl _ _,rfl⟩
def Walk.base(W:Walk b H g0 S c me k K g ls w):K.base<=b:=by rw [W.step.base];exact W.hb
def Walk.res(W:Walk b H g0 S c me k K g ls w):atz b H g0 S c me k K w:=⟨g,W.loc.out,W.nw,W.off,W.step,W.len⟩
def Walk.newL(W:Walk b H g0 S c me k K g ls w){ty:TypeId}{xs:List AV}{r:Nat}(hc:xs.all AV.aP=true)(hr:r=K.next)(ht:ty<iC:=by decide):Walk b H g0 S c me k (K.new (.blk 0 ty xs)) g (iO ls r xs) w:=
 ⟨W.hb,W.loc.newL hc hr ht,W.nw,W.off,W.step.trans (Step.new _ W.loc.good.1),W.len⟩
def Walk.whole(W:Walk b H g0 S c me k K g ls w){r n:Nat}{xs vs:List AV}(h:ls r=some xs)(d:xs.length=n)(e:vs.length=n)(i:0<n)(hv:vs.all AV.aP=true):
  ∃K',Proofs.YtljogojaihgdlaaGreat.st n (.ref r 0 0) (.agg vs) K=some (bg,K')/\Proofs.YtljogojaihgdlaaGreat.lda n (.ref r 0 0) K'=some (.agg vs,K')/\Walk b H g0 S c me k K' g (iO ls r vs) w:=by
 obtain⟨K',j,m,o,p⟩:=W.loc.whole W.base h d e i hv;exact⟨K',j,m,W.hb,o,W.nw,W.off,W.step.trans p,W.len⟩
def Walk.same(W:Walk b H g0 S c me k K g ls w)(G:Good b K' (lay g ls))(s:Step b K K'):Walk b H g0 S c me k K' g ls w:=⟨W.hb,⟨G,W.loc.free⟩,W.nw,W.off,W.step.trans s,W.len⟩
def Walk.aH(W:Walk b H g0 S c me k K g ls w){ca:Cache}(G:Good b K' (upd (lay g ls) (S.a 1) (dG ca)))(s:Step b K K'):Walk b H g0 S c me k K' (upd g (S.a 1) (dG ca)) ls ({ w.1 with aH:=ca },w.2):=
 ⟨W.hb,W.loc.call W.nw.bF.2.1 G,W.nw.aH ca,W.off.trans (Off.aqe (DU Z)),W.step.trans s,W.len⟩
def Walk.bQ(W:Walk b H g0 S c me k K g ls w){p:Proc}(G:Good b K' (upd (lay g ls) (S.a 2) (rY p)))(s:Step b K K'):Walk b H g0 S c me k K' (upd g (S.a 2) (rY p)) ls ({ w.1 with bQ:=p },w.2):=
 ⟨W.hb,W.loc.call W.nw.bF.2.2.1 G,W.nw.bQ p,W.off.trans (Off.aqe (DU Z)),W.step.trans s,W.len⟩
def Walk.own(W:Walk b H g0 S c me k K g ls w){d:bM}{num:Int}(G:Good b K' (upd (lay g ls) (S.a 0) (xU S.a c me d num)))(s:Step b K K'):Walk b H g0 S c me k K' (upd g (S.a 0) (xU S.a c me d num)) ls ({ w.1 with aI:=d,num:=num },w.2):=
 ⟨W.hb,W.loc.call W.nw.bF.1 G,W.nw.own d num,W.off.trans (Off.aqe (DU Z)),W.step.trans s,W.len⟩
def Walk.home(W:Walk b H g0 S c me k K g ls w){h:Home}(G:Good b K' (lQ (lay g ls) (S.a 4) (S.a 5) c h))(s:Step b K K'):Walk b H g0 S c me k K' (lQ g (S.a 4) (S.a 5) c h) ls ({ w.1 with home:=h },w.2):=by
 obtain⟨j,e,i⟩:=W.nw.bF.2.2.2;refine⟨W.hb,W.loc.home e i G,W.nw.home h,W.off.trans (Off.aqe λq d=>?_),W.step.trans s,W.len⟩;unfold lQ;rw [bn (d 5 Z),bn (d 4 Z)]
def Walk.trace(W:Walk b H g0 S c me k K g ls w){l:List Evn}(G:Good b K' (upd (lay g ls) S.t (oC l)))(s:Step b K K'):Walk b H g0 S c me k K' (upd g S.t (oC l)) ls (w.1,w.2.1,l):=
 ⟨W.hb,W.loc.call W.nw.tr G,W.nw.trace l,W.off.trans (Off.upd (.inr (.inr rfl))),W.step.trans s,W.len⟩
def Walk.RX(W:Walk b H g0 S c me k K g ls w):NW (lay g ls) S c me w:=W.nw.sub W.loc.sub
def Walk.net(W:Walk b H g0 S c me k K g ls w){i:bD}{fab:Fab}(G:Good b K' i)(F:iG i S.f S.P c fab)(j:fab.l.length=w.2.1.l.length)(O:Off (PN S.P w.2.1.l.length) (lay g ls) i)(s:Step b K K'):∃g',Walk b H g0 S c me k K' g' ls (w.1,fab,w.2.2):=by
 obtain⟨g',L,m,h⟩:=W.loc.net (T:=PN S.P w.2.1.l.length) (λq d=>by obtain⟨l,r,e⟩:=W.nw.port d;rw [e];simp) G O;have o:∀{q cs},g q=some cs->ls q=none:=λe=>(W.loc.at_ e).2;have p:iG g' S.f S.P c fab:=F.same (h _ (o W.nw.fab.1)) λq d=>by
  rw [j] at d;obtain⟨l,r,e⟩:=W.nw.port d;exact h _ (o e)
 refine⟨g',W.hb,L,W.nw.net p j m,W.off.trans (m.mono λq d=>.inr (.inl (by rw [<-W.len];exact d))),W.step.trans s,by rw [<-W.len];exact j⟩
def Walk.app(W:Walk b H g0 S c me k K g ls w)(h:atz b K (lay g ls) S c me k K' w'):∃g',Walk b H g0 S c me k K' g' ls w':=by
 obtain⟨o,G,N,O,s,i⟩:=h;obtain⟨g',L,j,h⟩:=W.loc.net (T:=ahX S k) (λq d=>W.nw.here (by rw [W.len];exact d)) G O;have m:∀q,g q≠none->ls q=none:=λq d=>by
  cases e:ls q with
  |none=>rfl
  |some xs=>exact absurd (W.loc.free q (by rw [e];simp)) d
 refine⟨g',W.hb,L,N.agree λq d=>h q (m q ?_),W.off.trans j,W.step.trans s,i⟩;rcases d with d|rfl
 ·exact W.nw.here (by rw [W.len,<-i];exact d)
 ·rw [W.nw.fab.1];simp
end
section
variable {b:Nat}{H:ah}{g0:bD}{S:Td}{c:Cfg}{me:Int}{k:Nat}{K K':ah}{g:bD}{ls:Lcl}{w w':NFT}
structure PSz(p:Proc):Prop where
 ops:p.ops.length<1000
 vals:p.bH.length<=p.ops.length
def Walk.ldN(W:Walk b H g0 S c me k K g ls w){i:Nat}{v:AV}(hi:(OI S.a c me w.1.aI w.1.num)[i]?=some v):ld (.ref (S.a 0) 0 i) K=some (v,K):=
 W.loc.good.load (W.loc.obj W.nw.bF.1) (i:=i) (x:=v) (by rw [xU,zaH,hi];rfl)
def Walk.apu(W:Walk b H g0 S c me k K g ls w){i n:Nat}{ys:List AV}(hi:((OI S.a c me w.1.aI w.1.num).drop i).take n=ys)(d:ys.length=n)(e:0<n):lda n (.ref (S.a 0) 0 i) K=some (.agg ys,K):=
 W.loc.good.loads (W.loc.obj W.nw.bF.1) (i:=i) (n:=n) (xs:=ys) (by rw [xU,<-hi,zcJ,zdM]) d e
def Walk.cur(W:Walk b H g0 S c me k K g ls w)(d:PSz w.1.bQ):∃K',cl 74 [.ref (S.a 2) 0 0] K=some (.tup [.agg w.1.bQ.op.av,I w.1.bQ.idx,B w.1.bQ.cur.isSome],K')/\Walk b H g0 S c me k K' g ls w:=by
 obtain⟨K',e,h,i⟩:=aj7 W.loc.good W.base (W.loc.obj W.nw.bF.2.2.1) d.ops (by have:=d.vals;have:=d.ops;omega) d.vals;exact⟨K',e,W.same h i⟩
def Walk.pend(W:Walk b H g0 S c me k K g ls w)(d:PSz w.1.bQ)(v:Int):∃r K' g',cl 117 [.ref (S.a 2) 0 0,I v] K=some (r,K')/\Walk b H g0 S c me k K' g' ls ({ w.1 with bQ:=w.1.bQ.Df v },w.2):=by
 obtain⟨r,K',e,h,i⟩:=aj6 W.loc.good W.base (W.loc.obj W.nw.bF.2.2.1) (by have:=d.vals;have:=d.ops;omega) v;exact⟨r,K',_,e,W.bQ h i⟩
def Walk.tend(W:Walk b H g0 S c me k K g ls w)(d:w.2.2.length<1000000)(n i v:Int):∃K' g',cl 118 [.ref S.t 0 0,I n,I i,I v] K=some (.tup [],K')/\Walk b H g0 S c me k K' g' ls (w.1,w.2.1,w.2.2++[⟨n,i,true,v⟩]):=by
 obtain⟨K',e,h,j⟩:=ae8 W.loc.good W.base (W.loc.obj W.nw.tr) d n i v;exact⟨K',_,e,W.trace h j⟩
def Walk.apv(W:Walk b H g0 S c me k K g ls w)(d:w.2.2.length<1000000)(n i:Int):∃K' g',cl 85 [.ref S.t 0 0,I n,I i] K=some (.tup [],K')/\Walk b H g0 S c me k K' g' ls (w.1,w.2.1,w.2.2++[⟨n,i,false,0⟩]):=by
 obtain⟨K',e,h,j⟩:=Yx W.loc.good W.base (W.loc.obj W.nw.tr) d n i;exact⟨K',_,e,W.trace h j⟩
def Walk.auB(W:Walk b H g0 S c me k K g ls w)(C:COk w.1.aH)(e:Ent){x:AV}(d:e.data.length<1000000000)(h:mD K x e.data):∃K' g',cl 121 [.ref (S.a 1) 0 0,.agg (e.avx x)] K=some (I (w.1.aH.put e).2,K')/\Walk b H g0 S c me k K' g' ls ({ w.1 with aH:=(w.1.aH.put e).1 },w.2):=by
 obtain⟨K',i,j,m⟩:=WW W.loc.good W.base (W.loc.obj W.nw.bF.2.1) C.len C.sets C.clk e d h;exact⟨K',_,i,W.aH j m⟩
def Walk.find(W:Walk b H g0 S c me k K g ls w)(C:COk w.1.aH)(aj:Int):cl 87 [.ref (S.a 1) 0 0,I aj] K=some (ql (w.1.aH.find aj),K):=
 rO W.loc.good (W.loc.obj W.nw.bF.2.1) C.len C.dat aj
def Walk.send(W:Walk b H g0 S c me k K g ls w)(F:FOk c w.2.1)(p:Pkt)(e:p.data.length<1000000000):∃K' g',cl 81 [.ref S.f 0 0,.agg p.av] K=some (I (w.2.1.send p).2,K')/\Walk b H g0 S c me k K' g' ls (w.1,(w.2.1.send p).1,w.2.2):=by
 obtain⟨K',u,h,i,j,m,o⟩:=ajX W.loc.good W.base W.RX.fab W.nw.S9 F p e;have d:(w.2.1.send p).1.l.length=w.2.1.l.length:=by
  unfold Fab.send;split
  ·rfl
  ·split
   ·rfl
   ·simp [Fab.put]
 obtain⟨g',q⟩:=W.net i j d m o;exact⟨K',g',h,q⟩
def acv(W:Walk b H g0 S c me k K g ls w)(d:PSz w.1.bQ)(o:w.2.2.length<1000000)(v:Int):
  ∃K' g',cl 75 [.ref (S.a 0) 0 0,.ref S.t 0 0,I v] K=some (.tup [],K')/\Walk b H g0 S c me k K' g' ls ((w.1.done me w.2.2 v).1,w.2.1,(w.1.done me w.2.2 v).2):=by
 have G:=W.loc.good;have e:=Walk.of G W.base W.RX;have p:=e.ldN (i:=1) (v:=.ref (S.a 2) 0 0) rfl;obtain⟨q,u,y⟩:=e.cur d;have z:=y.newL (ty:=53) (xs:=[zI,zI,zI]) (r:=q.next) rfl rfl;obtain⟨Q,A,R,h⟩:=z.whole ak (n:=3) (vs:=w.1.bQ.op.av) rfl (eP _) (by decide) (oZ _);have C:=h.ldN (i:=1) (v:=.ref (S.a 2) 0 0) rfl;obtain⟨r,T,X,D,j⟩:=h.pend d v;have E:=j.ldN (i:=10) (v:=I me) rfl;obtain⟨m,g5,F,L⟩:=j.tend o me w.1.bQ.idx v;obtain⟨g',M⟩:=W.app (K':=m) (w':=((w.1.done me w.2.2 v).1,w.2.1,(w.1.done me w.2.2 v).2)) (by
  have:=L.res;rw [W.len] at this;exact this)
 refine⟨m,g',bC rfl rfl (arS _ _ _ _ _ ?_),M⟩;simp only [xq_,amS,p,u,A,C,D,E,F]
def UY(W:Walk b H g0 S c me k K g ls w)(hc:c.ok=true)(F:FOk c w.2.1)(hd:w.1.aI.data.length<1000000000):
  ∃K' g',cl 77 [.ref (S.a 0) 0 0,.ref S.f 0 0] K=some (.tup [],K')/\Walk b H g0 S c me k K' g' ls (w.1,w.1.adX c me w.2.1,w.2.2):=by
 have G:=W.loc.good;have d:=Walk.of G W.base W.RX;have j:=d.apu (i:=12) (n:=9) (ys:=w.1.aI.av) rfl rfl Z;have m:=d.ldN (i:=10) (v:=I me) rfl;have o:=d.apu (i:=2) (n:=8) (ys:=c.av) rfl rfl Z;have p:=d.ldN (i:=13) (v:=I w.1.aI.aj) rfl;have q:=IW K.guard c hc w.1.aI.aj;have u:=apq K w.1.aI me (c.bf w.1.aI.aj) hd;have e:(w.1.aI.ask me (c.bf w.1.aI.aj)).data.length<1000000000:=by
  unfold bM.ask
  repeat' split
  all_goals first|exact hd|exact(show(0:Nat)<1000000000 by decide)
 obtain⟨h,C,y,z⟩:=d.send F (w.1.aI.ask me (c.bf w.1.aI.aj)) e;obtain⟨g',A⟩:=W.app (K':=h) (w':=(w.1,w.1.adX c me w.2.1,w.2.2)) (by
  have:=z.res;rw [W.len] at this;exact this)
 refine⟨h,g',bC rfl rfl (arV _ _ _ _ ?_),A⟩;simp only [Nat.reduceAdd,xq_,amT,j,m,o,p,q,u,y]
end
def aj8 {n:Nat}{x v r:AV}{H H':ah}(h:st n x v H=some (r,H')):H'.next=H.next:=by
 unfold st at h;split at h
 ·split at h
  ·split at h
   ·cases h;rfl
   ·cases h
  ·cases h
 ·cases h
def is0(H:ah)(e:Ent)(w:Int):cl0 161 [.agg e.av,I w] H=some (B (decide (0<=w/\w<e.data.length)),H.new (.blk 0 166 e.av)):=by
 refine iQ (ahx _ _ _ _ ?_);have d:=λH=>(kY H e.data).lnS;by_cases b:0<=w
 ·simp only [Nat.reduceLT,xq_,hq_,QY,aG,Ent.av,b,d]
 ·simp only [Nat.reduceLT,xq_,hq_,QY,aG,Ent.av,b,false_and]
def apw(H:ah)(l:List Int)(h:l≠[])(hl:l.length<1000000000):cl0 55 [dat l] H=some (.sl (H.next+1) 0 0 1 l.length l.length false,(H.new (.blk 0 3 [])).new (.blk 0 (3+iC) (l.map I))):=by
 have h0:l.length≠0:=λe=>h (zat e);have e2:=xG (e:=3) (by_:=8) (r:=H.next) (H:=H.new (.blk 0 3 [])) rE (kY _ l) (yH l) h0 (by unfold most;omega) (by unfold most;omega);simp only [eX] at e2;have e1:bi .eql 22 (dat l) zN=some (B false):=by rw [xQ h];exact yw Tryz.underlying22
 refine iQ (aef _ _ _ ?_);simp only [xq_,aaG,e1,QB,Io,e2,zbD,zaY]
section
variable {b:Nat}{H:ah}{g0:bD}{S:Td}{c:Cfg}{me:Int}{k:Nat}{K K':ah}{g:bD}{ls:Lcl}{w w':NFT}
def Walk.new(W:Walk b H g0 S c me k K g ls w)(o:gu):Walk b H g0 S c me k (K.new o) g ls w:=⟨W.hb,W.loc.new o,W.nw,W.off,W.step.trans (Step.new _ W.loc.good.1),W.len⟩
def O7 {args:List AV}{r:AV × ah}(h:cl0 120 args K=some r):cl 120 args K=some r:=G9 (p:=cl0 120) rfl h
def Walk.write(W:Walk b H g0 S c me k K g ls w){r:Nat}{e:Ent}(h:ls r=some e.av)(he:e.data.length<1000000000)(i v:Int):
  ∃res K' x,cl 120 [.ref r 0 0,I i,I v] K=some (res,K')/\mD K' x (e.write i v).data/\Walk b H g0 S c me k K' g (iO ls r ((e.write i v).avx x)) w:=by
 have same:iO ls r e.av=ls:=by
  funext x;simp only [iO];split
  ·rename_i hx;rw [hx,h]
  ·rfl
 have hr:r<K.next:=W.loc.good.lt (qK h)
 have l4:=W.loc.ld h (i:=4) (v:=B e.dn) rfl;cases hd:e.dn with
 |false=>
  have hm:e.write i v=e:=by unfold Ent.write;rw [if_neg (by simp [hd])]
  rw [hm];rw [hd] at l4;refine⟨B false,K,dat e.data,O7 (iQ (aaX _ _ _ _ _ ?_)),qO _ _,by
   have:e.avx (dat e.data)=e.av:=rfl;rw [this,same];exact W⟩
  simp only [xq_,V5,l4,zam]
 |true=>
  rw [hd] at l4;have la:=W.loc.lda h (i:=0) (n:=6) (ys:=e.av) rfl rfl (by decide);have e1:=is0 K e i;have W1:=W.new (.blk 0 166 e.av);by_cases hi:0<=i/\i<e.data.length
  ·have hm:e.write i v={ e with data:=e.data.set i.toNat v }:=by unfold Ent.write;rw [if_pos ⟨hd,hi⟩]
   have hne:e.data≠[]:=λh0=>by rw [h0] at hi;simp at hi;omega
   have e2:=apw (K.new (.blk 0 166 e.av)) e.data hne he;simp only [eX] at e2;have l5:=W1.loc.ld h (i:=5) (v:=dat e.data) rfl;let y:AV:=.sl (K.next+1+1) 0 0 1 e.data.length e.data.length false;obtain⟨K3,u1,L3,s3⟩:=W.loc.st W.base h (i:=5) (v:=y) (by simp [Ent.av]) uD;have nx:=aj8 u1;let o1:gu:=.blk 0 166 e.av;let o2:gu:=.blk 0 3 [];let o3:gu:=.blk 0 (3+iC) (e.data.map I);have u2:st 1 (.ref r 0 5) y (((K.new o1).new o2).new o3)=some (bg,((K3.new o1).new o2).new o3):=by
    rw [QG (by rw [eX,eX];omega),QG (by rw [eX];omega),QG hr,u1];rfl
   have L4:=((L3.new o1).new o2).new o3;have l5':=L4.ld ak (i:=5) (v:=y) (by simp [Ent.av]);have hn2:((K3.new o1).new o2).next=K.next+1+1:=by rw [eX,eX,nx]
   have hs:aN (((K3.new o1).new o2).new o3) y 1 e.data.length (e.data.map I):=by
    have:=kN (e:=3+iC) (m:=1) (n:=e.data.length) (l:=e.data.map I) (H:=(K3.new o1).new o2) (ex:=false) (by simp);rw [hn2] at this;exact this
   have ex:=hs.ix (k:=.i64) (i:=i) hi.1 hi.2;have ep:eH y i.toNat=.ref (K.next+1+1) 0 i.toNat:=by simp [y,eH]
   rw [ep] at ex;have u3:st 1 (.ref (K.next+1+1) 0 i.toNat) (I v) (((K3.new o1).new o2).new o3)=some (bg,((K3.new o1).new o2).new (.blk 0 (3+iC) ((e.data.set i.toNat v).map I))):=by
    rw [QF hn2.symm];have hbK:((K3.new o1).new o2).base<=K.next+1+1:=by
     rw [jB,jB,s3.base];have:=W.base;have:=W.loc.good.1;omega
    have hset:aO (e.data.map I) i.toNat (I v).cells=(e.data.set i.toNat v).map I:=by
     rw [show(I v).cells=[I v] from rfl];have hlt:i.toNat<(e.data.map I).length:=by simp;omega
     unfold aO;rw [List.map_set,zdm,if_pos hlt];simp
    rw [hset,if_pos ⟨hbK,rfl,rfl,by rw [show(I v).cells=[I v] from rfl];simp only [zaE,zal,zao];omega⟩]
   refine⟨B true,((K3.new o1).new o2).new (.blk 0 (3+iC) ((e.data.set i.toNat v).map I)),y,O7 (iQ (aaX _ _ _ _ _ ?_)),?_,?_⟩;rotate_left
   ·rw [hm];have:=kN (e:=3+iC) (m:=1) (n:=(e.data.set i.toNat v).length) (l:=(e.data.set i.toNat v).map I) (H:=(K3.new o1).new o2) (ex:=false) (by simp);rw [hn2] at this;rw [zcf] at this;refine⟨?_,uD,λh0=>?_⟩
    ·simp only [zcf];exact this
    ·have:=congrArg List.length h0;simp at this;exact absurd this hne
   ·rw [hm];have L5:=((L3.new o1).new o2).new (.blk 0 (3+iC) ((e.data.set i.toNat v).map I));have hx:(e.av.set 5 y)=({ e with data:=e.data.set i.toNat v }:Ent).avx y:=rfl;rw [hx] at L5;exact⟨W.hb,L5,W.nw,W.off,((((W.step.trans s3).trans (Step.new _ L3.good.1)).trans (Step.new _ (L3.new o1).good.1)).trans (Step.new _ ((L3.new o1).new o2).good.1)),W.len⟩
   ·simp only [o1,o2,o3,y] at u2 l5' ex u3;rw [decide_eq_true hi] at e1;simp only [xq_,V5,l4,la,e1,zaf,l5,e2,u2,l5',ex,u3];rfl
  ·have hm:e.write i v=e:=by unfold Ent.write;rw [if_neg (λh=>hi h.2)]
   rw [hm];refine⟨B false,_,dat e.data,O7 (iQ (aaX _ _ _ _ _ ?_)),qO _ _,by
    have:e.avx (dat e.data)=e.av:=rfl;rw [this,same];exact W1⟩
   rw [decide_eq_false hi] at e1;simp only [xq_,V5,l4,la,e1,zaf,zam]
end
section
variable {b:Nat}{H:ah}{g0:bD}{S:Td}{c:Cfg}{me:Int}{k:Nat}{K K':ah}{g:bD}{ls:Lcl}{w w':NFT}
def aj9(W:Walk b H g0 S c me k K g ls w)(A:PSz w.1.bQ)(C:COk w.1.aH)(D:w.2.2.length<1000000){r4 p:Nat}{o:Opn}{e:Ent}{x:AV}(E:ls r4=some o.av)(F:ls p=some (e.avx x))(G:e.data.length<1000000000)(L:mD K x e.data)(d:Int):
  ∃K' g',Aa cl (.ref (S.a 0) 0 0) (.ref S.t 0 0) (.ref r4 0 0) (.ref p 0 0) (I d) K=some (.tup [],K')/\
   Walk b H g0 S c me k K' g' ls ((({ w.1 with aH:=(w.1.aH.put e).1 }:Node).done me w.2.2 (if o.aS=2 then 0 else d)).1,w.2.1,(({ w.1 with aH:=(w.1.aH.put e).1 }:Node).done me w.2.2 (if o.aS=2 then 0 else d)).2):=by
 have q:=W.ldN (i:=0) (v:=.ref (S.a 1) 0 0) rfl;have u:=W.loc.lda F (i:=0) (n:=6) (ys:=e.avx x) rfl rfl Z;obtain⟨T,X,y,z⟩:=W.auB C e G L;have m:=z.loc.ld E (i:=0) (v:=I o.aS) rfl;obtain⟨M,Q,h,R⟩:=acv z A D (if o.aS=2 then 0 else d);refine⟨M,Q,?_,R⟩;by_cases j:o.aS=2
 ·rw [j] at m;rw [if_pos j] at h;simp only [xq_,Aa,Oo,q,u,y,m,h]
 ·rw [if_neg j] at h;simp only [xq_,Aa,Oo,q,u,y,m,j,h]
def RY(W:Walk b H g0 S c me k K g ls w)(hc:c.ok=true)(hp:PSz w.1.bQ)(C:COk w.1.aH)(hl:w.2.2.length<1000000):
  ∃K' g',cl 76 [.ref (S.a 0) 0 0,.ref S.t 0 0] K=some (.tup [],K')/\Walk b H g0 S c me k K' g' ls ((w.1.effect c me w.2.2).1,w.2.1,(w.1.effect c me w.2.2).2):=by
 have W0:=Walk.of W.loc.good W.base W.RX;obtain⟨o,ho⟩:∃o,w.1.bQ.op=o:=⟨_,rfl⟩
 obtain⟨wi,hwi⟩:∃wi,c.dI o.addr=wi:=⟨_,rfl⟩
 obtain⟨e,hee⟩:∃e,(w.1.aH.find (c.bU o.addr)).getD .zero=e:=⟨_,rfl⟩
 have hed:e.data.length<1000000000:=by
  rw [<-hee];cases hf:w.1.aH.find (c.bU o.addr) with
  |none=>exact(show(0:Nat)<1000000000 by decide)
  |some e'=>exact C.dat e' (zba hf)
 have l1:=W0.ldN (i:=1) (v:=.ref (S.a 2) 0 0) rfl;obtain⟨K1,a1,W1⟩:=W0.cur hp;have W2:=W1.newL (ty:=53) (xs:=[zI,zI,zI]) (r:=K1.next) rfl rfl;obtain⟨K3,b1,b2,W3⟩:=W2.whole ak (n:=3) (vs:=o.av) rfl (eP _) (by decide) (oZ _);have lc:=W3.apu (i:=2) (n:=8) (ys:=c.av) rfl rfl (by decide);have k3:iO (iO noL K1.next [zI,zI,zI]) K1.next o.av K1.next=some o.av:=ak
 have la:=W3.loc.ld k3 (i:=1) (v:=I o.addr) rfl;have el:=IX K3 c hc o.addr;rw [hwi] at el;have l0:=W3.ldN (i:=0) (v:=.ref (S.a 1) 0 0) rfl;have ef:=W3.find C (c.bU o.addr);simp only [ql] at ef;rw [hee] at ef;have n3:K1.next<K3.next:=W3.loc.good.lt (qK (g:=lay g ls) k3)
 have W4:=W3.newL (ty:=166) (xs:=[zI,zI,zI,zI,zB,zN]) (r:=K3.next) rfl rfl;obtain⟨K5,c1,c2,W5⟩:=W4.whole ak (n:=6) (vs:=e.av) rfl rfl (by decide) (lN e);have ew:=ajI K5 e wi;have k9:iO (iO (iO (iO noL K1.next [zI,zI,zI]) K1.next o.av) K3.next [zI,zI,zI,zI,zB,zN]) K3.next e.av K3.next=some e.av:=ak
 have k4:iO (iO (iO (iO noL K1.next [zI,zI,zI]) K1.next o.av) K3.next [zI,zI,zI,zI,zB,zN]) K3.next e.av K1.next=some o.av:=by rw [aC (by omega),aC (by omega)];exact k3
 have lk:=W5.loc.ld k4 (i:=0) (v:=I o.aS) rfl;have lv:=W5.loc.ld k4 (i:=2) (v:=I o.value) rfl;have hm:w.1.effect c me w.2.2=({ w.1 with aH:=(w.1.aH.put (eU e o wi)).1 }:Node).done me w.2.2 (if o.aS=2 then 0 else e.word wi):=by
  simp only [Node.effect,ho,hee,hwi]
 rw [ho] at a1
 -- a word is written,or none
 have key:∀{K6:ah} {ls6:Lcl} {x:AV},Walk b K (lay g ls) S c me w.2.1.l.length K6 (lay g ls) ls6 w->ls6 K1.next=some o.av->ls6 K3.next=some ((eU e o wi).avx x)->mD K6 x (eU e o wi).data->
   ∃K' g',Aa cl (.ref (S.a 0) 0 0) (.ref S.t 0 0) (.ref K1.next 0 0) (.ref K3.next 0 0) (I (e.word wi)) K6=some (.tup [],K')/\Walk b H g0 S c me k K' g' ls ((w.1.effect c me w.2.2).1,w.2.1,(w.1.effect c me w.2.2).2):=by
  intro K6 ls6 x W6 h4 h9 hx;obtain⟨K7,g7,r1,W7⟩:=aj9 W6 hp C hl h4 h9 (by rw [(rQ e o wi).2.2.2];exact hed) hx (e.word wi);rw [<-hm] at W7;obtain⟨g',W'⟩:=W.app (K':=K7) (w':=((w.1.effect c me w.2.2).1,w.2.1,(w.1.effect c me w.2.2).2)) (by
   have:=W7.res;rw [W.len] at this;exact this)
  exact⟨K7,g',r1,W'⟩
 by_cases h2:o.aS=2
 ·obtain⟨res,K6,x,d1,hx,W6⟩:=W5.write k9 hed wi o.value;have he:eU e o wi=e.write wi o.value:=by unfold eU;rw [if_pos h2]
  obtain⟨K7,g',r1,W'⟩:=key W6 (by rw [aC (by omega)];exact k4) (by rw [ak,he]) (by rw [he];exact hx);refine⟨K7,g',bC rfl rfl (ajb _ _ _ _ ?_),W'⟩;rw [h2] at lk;simp only [Int.reduceEq,xq_,aej,l1,a1,b1,lc,la,el,l0,ef,c1,c2,ew,lk,lv,d1,r1]
 ·by_cases h3:o.aS=3
  ·obtain⟨res,K6,x,d1,hx,W6⟩:=W5.write k9 hed wi (w64 (e.word wi+o.value));have he:eU e o wi=e.write wi (w64 (e.word wi+o.value)):=by unfold eU;rw [if_neg h2,if_pos h3]
   obtain⟨K7,g',r1,W'⟩:=key W6 (by rw [aC (by omega)];exact k4) (by rw [ak,he]) (by rw [he];exact hx);refine⟨K7,g',bC rfl rfl (ajb _ _ _ _ ?_),W'⟩;rw [h3] at lk;simp only [w64] at d1;simp only [Int.reduceEq,xq_,aej,l1,a1,b1,lc,la,el,l0,ef,c1,c2,ew,lk,lv,cZ,d1,r1]
  ·have he:eU e o wi=e:=by unfold eU;rw [if_neg h2,if_neg h3]
   obtain⟨K7,g',r1,W'⟩:=key (x:=dat e.data) W5 k4 (by rw [he];exact k9) (by rw [he];exact qO _ _);refine⟨K7,g',bC rfl rfl (ajb _ _ _ _ ?_),W'⟩;simp only [xq_,aej,l1,a1,b1,lc,la,el,l0,ef,c1,c2,ew,lk,h2,h3,r1]
def afb(W:Walk b H g0 S c me k K g ls w)(C:COk w.1.aH)(hd:w.1.aI.data.length<1000000000)(p:Pkt)(hpl:p.data.length<1000000000):
  ∃K' g',cl 73 [.ref (S.a 0) 0 0,.agg p.av] K=some (uU (w.1.after me p),K')/\Walk b H g0 S c me k K' g' ls ({ w.1 with aH:=(w.1.after me p).1 },w.2):=by
 have W0:=Walk.of W.loc.good W.base W.RX;have W1:=W0.newL (ty:=112) (xs:=p.av) (r:=K.next) (aU p) rfl;have W2:=W1.newL (ty:=44) (xs:=zD9) (r:=K.next+1) rfl (by rw [eX]);have k3:iO (iO noL K.next p.av) (K.next+1) zD9 K.next=some p.av:=by rw [aC (by omega),ak]
 have lk:=W2.ldN (i:=12) (v:=I w.1.aI.aS) rfl;have ld:=W2.apu (i:=12) (n:=9) (ys:=w.1.aI.av) rfl rfl (by decide);have li:=W2.ldN (i:=10) (v:=I me) rfl;have lc:=W2.ldN (i:=0) (v:=.ref (S.a 1) 0 0) rfl;have lp:=W2.loc.lda k3 (i:=0) (n:=9) (ys:=p.av) rfl rfl (by decide);have hcache:=W2.loc.obj W2.nw.bF.2.1
 -- the end
 have fin:∀{K3:ah} {r:Nxt},Good b K3 (upd (lay (lay g ls) (iO (iO noL K.next p.av) (K.next+1) zD9)) (S.a 1) (dG r.1))->Step b ((K.new (.blk 0 112 p.av)).new (.blk 0 44 zD9)) K3->w.1.after me p=r->
   ∃K' g',st 9 (.ref (K.next+1) 0 0) (.agg r.2.1.av) K3=some (bg,K')/\lda 9 (.ref (K.next+1) 0 0) K'=some (.agg r.2.1.av,K')/\Walk b H g0 S c me k K' g' ls ({ w.1 with aH:=(w.1.after me p).1 },w.2):=by
  intro K3 r G s hr;have W3:=W2.aH G s;obtain⟨K4,u1,u2,W4⟩:=W3.whole (r:=K.next+1) (xs:=zD9) ak (n:=9) (vs:=r.2.1.av) rfl rfl (by decide) (bG _);obtain⟨g',W'⟩:=W.app (K':=K4) (w':=({ w.1 with aH:=(w.1.after me p).1 },w.2)) (by
   have:=W4.res;rw [W.len] at this;rw [hr];exact this)
  exact⟨K4,g',u1,u2,W'⟩
 by_cases h1:w.1.aI.aS=1
 ·have hm:w.1.after me p=dX w.1.aI me w.1.aH p:=by unfold Node.after;rw [if_pos h1]
  obtain⟨K3,a1,a2,a3⟩:=acn W2.loc.good W2.base hcache C w.1.aI me p hpl;obtain⟨K4,g',u1,u2,W'⟩:=fin a2 a3 hm;refine⟨K4,g',bC rfl rfl (aei _ _ _ _ ?_),W'⟩;rw [h1] at lk;rw [hm];simp only [uU] at a1 ⊢;simp only [Nat.reduceLT,Int.reduceEq,xq_,aaK,aG (aU p),lk,ld,li,lc,lp,a1,u1,u2]
 ·by_cases h2:w.1.aI.aS=2
  ·have hm:w.1.after me p=dY w.1.aI me w.1.aH p:=by unfold Node.after;rw [if_neg h1,if_pos h2]
   obtain⟨K3,a1,a2,a3⟩:=ae7 W2.loc.good W2.base hcache C w.1.aI me p hd hpl;obtain⟨K4,g',u1,u2,W'⟩:=fin a2 a3 hm;refine⟨K4,g',bC rfl rfl (aei _ _ _ _ ?_),W'⟩;rw [h2] at lk;rw [hm];simp only [uU] at a1 ⊢;simp only [Nat.reduceLT,Int.reduceEq,xq_,aaK,aG (aU p),lk,ld,li,lc,lp,a1,u1,u2]
  ·by_cases h3:w.1.aI.aS=3
   ·have hm:w.1.after me p=eF w.1.aI w.1.aH p:=by unfold Node.after;rw [if_neg h1,if_neg h2,if_pos h3]
    obtain⟨K3,a1,a2,a3⟩:=aj3 W2.loc.good W2.base hcache C w.1.aI p me;obtain⟨K4,g',u1,u2,W'⟩:=fin a2 a3 hm;refine⟨K4,g',bC rfl rfl (aei _ _ _ _ ?_),W'⟩;rw [h3] at lk;rw [hm];simp only [uU] at a1 ⊢;simp only [Nat.reduceLT,Int.reduceEq,xq_,aaK,aG (aU p),lk,ld,li,lc,lp,a1,u1,u2]
   ·have hm:w.1.after me p=wQ w.1.aH:=by unfold Node.after;rw [if_neg h1,if_neg h2,if_neg h3]
    obtain⟨K4,g',u1,u2,W'⟩:=fin (r:=wQ w.1.aH) (by rw [show(wQ w.1.aH).1=w.1.aH from rfl,fP hcache];exact W2.loc.good) (Step.refl _ _) hm;refine⟨K4,g',bC rfl rfl (aei _ _ _ _ ?_),W'⟩;rw [hm];have ez:bd 44 []=some (.agg zD9):=by simp only [xq_,XP,jf,eu]
    have hz:(wQ w.1.aH).2.1.av=zD9:=mF;rw [hz] at u1 u2;simp only [uU,hz];simp only [Nat.reduceLT,xq_,aaK,aG (aU p),lk,h1,h2,h3,ez,u1,u2];rfl
end
def Node.evs(n:Node):Nat:=2*n.bQ.bH.length+(if n.bQ.eG then 1 else 0)
def acw {c:Cfg}{d:bM}(h:d.data=[]∨qB c d.data)(me home:Int):(d.ask me home).ok=true->yV c (d.ask me home):=by
 intro hk;have num:∀v∈d.data,I64 v:=by
  rcases h with h|h
  ·rw [h];intro v hv;cases hv
  ·exact h.2
 refine⟨hk,?_,?_⟩
 ·unfold bM.ask
  repeat' split
  all_goals (simp [Pkt.zero])
 ·unfold bM.ask
  repeat' split
  all_goals first|exact num|(intro v hv;cases hv)
def yM {c:Cfg}{p:Pkt}(hd:p.data=[])(hk:¬(p.aS=7∨p.aS=9)):p.ok=true->yV c p:=λh=>⟨h,λe=>absurd e hk,by rw [hd];intro v hv;cases hv⟩
def afc {c:Cfg}{dJ:Rows}(b:∀e∈dJ,qB c e.2.data){aj aV head:Int}{data:List Int}(hd:∀v∈data,I64 v):∀e∈(iL c dJ aj aV head data).1,qB c e.2.data:=by
 unfold iL;cases ha:jC dJ aj with
 |none=>exact b
 |some r=>
  simp only;split
  ·exact b
  ·split
   ·exact b
   ·rename_i i g;intro e d;rcases mV d with rfl|d
    ·simp only;split
     ·exact b _ (mQ ha)
     ·rename_i h;simp only [zbk,zah,decide_eq_true_eq,not_or,not_and,Decidable.not_not] at g;exact⟨g.2 h,hd⟩
    ·exact b e d
def UZ {c:Cfg}{me:Int}{h:Home}(b:∀e∈h.dJ,qB c e.2.data){p:Pkt}(hd:∀v∈p.data,I64 v):∀e∈(h.handle c me p).1.dJ,qB c e.2.data:=by
 unfold Home.handle;split
 ·exact b
 split
 ·exact b
 split
 ·simp only;split <;> exact b
 ·have key:∀e∈(h.unlock c p).1.dJ,qB c e.2.data:=by
   unfold Home.unlock;have d:∀v∈(if p.flag=true then p.data else []),I64 v:=by
    split
    ·exact hd
    ·intro v hv;cases hv
   generalize (if p.flag=true then p.data else [])=dat at d ⊢;split
   ·exact b
   ·simp only;split
    ·exact afc b d
    ·exact b
  simp only;split <;> exact key
def acy {c:Cfg}{ca:Cache}(I:Fj c ca)(p:Pkt):Fj c (fQ ca p).1/\((fQ ca p).2.1.ok=true->yV c (fQ ca p).2.1)/\(fQ ca p).1.dh=ca.dh/\∀(aj:Int),c.ok=true->ca.full aj=false->(fQ ca p).1.full aj=false:=by
 unfold fQ;have z:Pkt.zero.ok=true->yV c Pkt.zero:=yM rfl (by simp [Pkt.zero]);split
 ·exact⟨I,z,rfl,λ_ _ h=>h⟩
 rename_i j;cases i:ca.find p.aj with
 |none=>exact⟨I,z,rfl,λ_ _ h=>h⟩
 |some e=>
  obtain⟨m,o⟩:=(iJ I.aY).1 i;have E:=I.ent e m;simp only [zbk,za4,not_or,zcy,decide_eq_true_eq] at j;have put:∀b:Ent,b.aj=e.aj->b.data=e.data->Fj c (ca.put b).1/\(ca.put b).1.dh=ca.dh/\∀aj,ca.full aj=false->(ca.put b).1.full aj=false:=λb d q=>by
   have g:ca.find b.aj=some e:=by rw [d,o];exact i
   refine⟨I.put (by rw [d];exact E.lo) (by rw [d];exact E.hi) (by rw [q];exact E.dat),by rw [lY I.aY (by rw [d];exact E.lo) g],λaj h=>?_⟩;rw [ad1 I.aY (by rw [d];exact E.lo) g];exact h
  simp only;split
  ·rename_i k;have u:=put { e with dn:=false,back:=p.ptr } rfl rfl;exact⟨u.1,λh=>⟨h,λ_=>E.dat,E.dat.2⟩,u.2.1,λl _ h=>u.2.2 l h⟩
  split
  ·rename_i k;have u:=put { e with fwd:=p.ptr } rfl rfl;exact⟨u.1,yM rfl (by simp only [k];decide),u.2.1,λl _ h=>u.2.2 l h⟩
  split
  ·rename_i k;have u:=put { e with back:=p.ptr } rfl rfl;exact⟨u.1,yM rfl (by simp only [k];decide),u.2.1,λl _ h=>u.2.2 l h⟩
  ·exact⟨I.drop _,λh=>⟨h,λ_=>E.dat,E.dat.2⟩,DT _ _,λl hc h=>aai hc I h⟩
def Eff.evs {c:Cfg}{me:Int}{n:Node}{r:jE}{t:List Evn}{A:NT}{B:RNT}(E:Eff c me n r t A B)(hb:n.bQ.eG=true):A.2.length+n.evs=t.length+A.1.evs:=by
 have b:A.1.bQ=⟨n.bQ.ops,n.bQ.bH++[A.2.getLast?.elim 0 (·.value)],false⟩:=by rw [E.asN]
 have d:=E.len;unfold Node.evs;rw [b,hb];simp only [zaq,zal,zao,if_true,zai,if_false];omega
def YB {ca:Cache}(d:Lines ca.l){aj:Int}{e:Ent}(h:ca.find aj=some e):(ca.touch aj).find aj=some { e with used:=ca.dh+1 }:=by
 obtain⟨g,b⟩:=(iJ d).1 h;rw [yC d h];unfold Cache.find;rw [iJ (Bh d λy _=>by
  split
  ·rename_i h;rw [h];exact b
  ·rfl)]
 exact⟨zaI.2 ⟨e,g,by rw [if_pos b]⟩,b⟩
def Jj {ca:Cache}(b:Lines ca.l){aj:Int}{e:Ent}(h:ca.find aj=some e):(ca.touch aj).dh=ca.dh+1:=by rw [yC b h]
def RZ {f:Fab}{i:Int}{req:Bool}(h:(f.take i req).2=none):(f.take i req).1=f:=by
 unfold Fab.take at h ⊢;split
 ·rename_i hi;rw [if_pos hi] at h;cases b:(f.port i).qo req with
  |nil=>rfl
  |cons p l=>rw [b] at h;cases h
 ·rfl
structure akb(m:bW):Prop where
 ok:m.c.ok=true
 len:(m.aB.length:Int)=m.c.aB
 fab:wR m.c m.fab
 bF:∀(i:Nat) n,m.aB[i]?=some n->X0 m.c i n
 evs:m.trace.length=(m.aB.map Node.evs).sum
def acz {α:Type}(f:α->Nat):∀{l:List α} {i:Nat} {a a':α},l[i]?=some a->((l.set i a').map f).sum+f a=(l.map f).sum+f a'
 |[],i,a,a',h=>by simp at h
 |x::l,0,a,a',h=>by
  simp only [zaT,zaa] at h;subst h;simp only [zb9,zax,zbx];omega
 |x::l,i+1,a,a',h=>by
  simp only [zbf] at h;have:=acz f (a':=a') h;simp only [zca,zax,zbx];omega
section
variable {b:Nat}{H:ah}{g:bD}{q:Nat}{ca:Cache}
def acA(G:Good b H g)(hb:H.base<=b)(h:g q=some (dG ca))(C:COk ca)(p:Pkt):
  ∃H',cl 130 [.ref q 0 0,.agg p.av] H=some (Y8 (fQ ca p),H')/\Good b H' (upd g q (dG (fQ ca p).1))/\Step b H H':=by
 by_cases d:(!p.ok || decide (p.aS<3) || decide (6<p.aS))=true
 ·exact RU G hb h C p (.inl d)
 ·cases i:ca.find p.aj with
  |none=>exact RU G hb h C p (.inr i)
  |some e=>exact ae9 G hb h C p d i
end
def fok {c:Cfg}(hc:c.ok=true){f:Fab}(F:wR c f):FOk c f:=by
 have B:=uK hc;refine⟨hc,by have:=F.len;have:=B.aB;omega,λp d s hs=>?_,λp d s hs q b=>?_⟩
 ·have P:=F.port p d
  match s,hs with
  |0,_=>exact P.rq
  |1,_=>exact P.rin
  |2,_=>exact P.an
  |3,_=>exact P.ain
 ·have P:=F.port p d;have Q:yV c q:=by
   match s,hs with
   |0,_=>exact P.pkt q (.inl b)
   |1,_=>exact P.pkt q (.inr (.inr (.inl b)))
   |2,_=>exact P.pkt q (.inr (.inl b))
   |3,_=>exact P.pkt q (.inr (.inr (.inr b)))
  have:=Q.ok;simp only [Pkt.ok,zah,decide_eq_true_eq] at this;omega
def Si {c:Cfg}{p:Pkt}(Q:yV c p):p.data.length<1000000000:=by
 have:=Q.ok;simp only [Pkt.ok,zah,decide_eq_true_eq] at this;omega
structure HSz(h:Home):Prop where
 t:TOk h.aT
 r:∀e∈h.dJ,e.2.data.length<1000000000
def Sj {h:Home}(b:∀e∈h.dJ,e.2.data.length<1000000000)(aj:Int):(jq h.dJ aj).data.length<1000000000:=by
 unfold jq;cases ha:jC h.dJ aj with
 |none=>exact(show(0:Nat)<1000000000 by decide)
 |some r=>exact b _ (mQ ha)
def oD(c:Cfg)(me:Int)(n:Node)(p:Pkt):Node × Pkt × Bool:=
 if p.aS=1∨p.aS=2 then({ n with home:=(n.home.handle c me p).1 },(n.home.handle c me p).2.1,(n.home.handle c me p).2.2.1 && decide ((n.home.handle c me p).2.2.2=0))
 else({ n with aH:=(fQ n.aH p).1 },(fQ n.aH p).2.1,decide ((fQ n.aH p).2.2=0))
def afd(c:Cfg)(me:Int)(n:Node)(f:Fab)(p:Pkt):n.asked c me f p=((oD c me n p).1,if(oD c me n p).2.2=true then(f.send (oD c me n p).2.1).1 else f):=by
 unfold Node.asked oD;split
 ·rcases h:n.home.handle c me p with⟨b,o,ok,e⟩
  simp
 ·rcases h:fQ n.aH p with⟨b,o,e⟩
  simp
def Sl {c:Cfg}{me:Int}{n:Node}(C:COk n.aH)(Z:HSz n.home)(p:Pkt):(oD c me n p).2.1.data.length<1000000000:=by
 have b:(0:Nat)<1000000000:=ZS
 unfold oD;split
 ·simp only [Home.handle]
  repeat' split
  all_goals first|exact b|exact Sj Z.r _
 ·simp only [fQ];split
  ·exact b
  ·cases d:n.aH.find p.aj with
   |none=>exact b
   |some e=>
    have g:=C.dat e (zba d);simp only
    repeat' split
    all_goals first|exact b|exact g
section
variable {b:Nat}{H:ah}{g0:bD}{S:Td}{c:Cfg}{me:Int}{k:Nat}{K K':ah}{g:bD}{ls:Lcl}{w w':NFT}
def acB(W:Walk b H g0 S c me k K g ls w)(hc:c.ok=true)(C:COk w.1.aH)(Z:HSz w.1.home)(p:Pkt)(hpl:p.data.length<1000000000):
  ∃K' g',cl 83 [.ref (S.a 0) 0 0,.agg p.av] K=some (.tup [.agg (oD c me w.1 p).2.1.av,B (oD c me w.1 p).2.2],K')/\Walk b H g0 S c me k K' g' ls ((oD c me w.1 p).1,w.2):=by
 have W0:=Walk.of W.loc.good W.base W.RX;have W1:=W0.newL (ty:=112) (xs:=p.av) (r:=K.next) (aU p) rfl;have W2:=W1.newL (ty:=112) (xs:=zP9) (r:=K.next+1) rfl (by rw [eX]);have W3:=W2.newL (ty:=112) (xs:=zP9) (r:=K.next+1+1) rfl (by rw [eX,eX]);have k2:iO (iO noL K.next p.av) (K.next+1) zP9 K.next=some p.av:=by rw [aC (by omega),ak]
 have k3:iO (iO (iO noL K.next p.av) (K.next+1) zP9) (K.next+1+1) zP9 K.next=some p.av:=by rw [aC (by omega)];exact k2
 have k4:iO (iO (iO noL K.next p.av) (K.next+1) zP9) (K.next+1+1) zP9 (K.next+1)=some zP9:=by rw [aC (by omega),ak]
 have k5:iO (iO (iO noL K.next p.av) (K.next+1) zP9) (K.next+1+1) zP9 (K.next+1+1)=some zP9:=ak;have lk:=W2.loc.ld k2 (i:=0) (v:=I p.aS) rfl;have lp:=W3.loc.lda k3 (i:=0) (n:=9) (ys:=p.av) rfl rfl (by decide);have lh:=W3.ldN (i:=11) (v:=.ref (S.a 3) 0 0) rfl;have lc:=W3.ldN (i:=0) (v:=.ref (S.a 1) 0 0) rfl
 -- the end
 have fin:∀{K4:ah} {g4:bD} {n':Node} {out:Pkt} {v:AV},Walk b K (lay g ls) S c me w.2.1.l.length K4 g4 (iO (iO (iO noL K.next p.av) (K.next+1) zP9) (K.next+1+1) zP9) (n',w.2)->
   (∀f args,cl f args (((K.new (.blk 0 112 p.av)).new (.blk 0 112 zP9)).new (.blk 0 112 zP9))=some (v,K4)->
   (∀{β:Type} (kk:Option β),ckR (K.next+1+1) (K.next+1+1+1) (((K.new (.blk 0 112 p.av)).new (.blk 0 112 zP9)).new (.blk 0 112 zP9)) K4 kk=kk)/\
   ∃K5 K6 g',st 9 (.ref (K.next+1+1) 0 0) (.agg out.av) K4=some (bg,K5)/\lda 9 (.ref (K.next+1+1) 0 0) K5=some (.agg out.av,K5)/\st 9 (.ref (K.next+1) 0 0) (.agg out.av) K5=some (bg,K6)/\lda 9 (.ref (K.next+1) 0 0) K6=some (.agg out.av,K6)/\Walk b H g0 S c me k K6 g' ls (n',w.2)):=by
  intro K4 g4 n' out v W4 f args hcl;refine⟨λkk=>aps λr h1 h2=>?_,?_⟩
  ·obtain rfl:r=K.next+1+1:=by omega
   exact Xe W3.loc.good W4.loc.good (Xb _ _ _ _ _ hcl) (qK k5) (qK k5)
  ·obtain⟨K5,u1,u2,W5⟩:=W4.whole k5 (n:=9) (vs:=out.av) rfl (bZ _) (by decide) (aU _);obtain⟨K6,u3,u4,W6⟩:=W5.whole (r:=K.next+1) (xs:=zP9) (by rw [aC (by omega)];exact k4) (n:=9) (vs:=out.av) rfl (bZ _) (by decide) (aU _);obtain⟨g',W'⟩:=W.app (K':=K6) (w':=(n',w.2)) (by
    have:=W6.res;rw [W.len] at this;exact this)
   exact⟨K5,K6,g',u1,u2,u3,u4,W'⟩
 by_cases hk:p.aS=1∨p.aS=2
 ·have hm:oD c me w.1 p=({ w.1 with home:=(w.1.home.handle c me p).1 },(w.1.home.handle c me p).2.1,(w.1.home.handle c me p).2.2.1 && decide ((w.1.home.handle c me p).2.2.2=0)):=by unfold oD;rw [if_pos hk]
  rw [hm];have HI:=W3.RX.bF.2.2.2;obtain⟨K4,a1,a2,a3⟩:=ab9 W3.loc.good W3.base HI hc Z.t.nd Z.t.ws Z.r p hpl;have W4:=W3.home a2 a3;obtain⟨ck,K5,K6,g',u1,u2,u3,u4,W'⟩:=fin W4 _ _ a1 (out:=(w.1.home.handle c me p).2.1);refine⟨K6,g',bC rfl rfl (amZ _ _ _ _ ?_),W'⟩;simp only [Xd] at a1;obtain⟨ok,hok⟩:∃ok,(w.1.home.handle c me p).2.2.1=ok:=⟨_,rfl⟩
  rw [hok] at a1 ⊢;have cR:∀{β:Type} (kk:Option β),ckR ((K.new (.blk 0 112 p.av)).new (.blk 0 112 zP9)).next (((K.new (.blk 0 112 p.av)).new (.blk 0 112 zP9)).new (.blk 0 112 zP9)).next (((K.new (.blk 0 112 p.av)).new (.blk 0 112 zP9)).new (.blk 0 112 zP9)) K4 kk=kk:=by
   intro β kk;simp only [eX];exact ck kk
  rcases hk with h1|h1
  ·rw [h1] at lk;cases ok with
   |true=>simp only [Nat.reduceLT,xq_,X9,aG (aU p),lk,lh,lp,a1,ck,u1,u2,u3,u4,zaN]
   |false=>simp only [Nat.reduceLT,xq_,X9,aG (aU p),lk,lh,lp,a1,ck,u1,u2,u3,u4,zaP]
  ·rw [h1] at lk;cases ok with
   |true=>simp only [Nat.reduceLT,Int.reduceEq,xq_,X9,aG (aU p),lk,lh,lp,a1,ck,u1,u2,u3,u4,zaN]
   |false=>simp only [Nat.reduceLT,Int.reduceEq,xq_,X9,aG (aU p),lk,lh,lp,a1,ck,u1,u2,u3,u4,zaP]
 ·have hm:oD c me w.1 p=({ w.1 with aH:=(fQ w.1.aH p).1 },(fQ w.1.aH p).2.1,decide ((fQ w.1.aH p).2.2=0)):=by unfold oD;rw [if_neg hk]
  rw [hm];obtain⟨K4,a1,a2,a3⟩:=acA W3.loc.good W3.base (W3.loc.obj W3.nw.bF.2.1) C p;have W4:=W3.aH a2 a3;obtain⟨ck,K5,K6,g',u1,u2,u3,u4,W'⟩:=fin W4 _ _ a1 (out:=(fQ w.1.aH p).2.1);refine⟨K6,g',bC rfl rfl (amZ _ _ _ _ ?_),W'⟩;have h1:¬p.aS=1:=λh=>hk (.inl h);have h2:¬p.aS=2:=λh=>hk (.inr h);simp only [Y8] at a1;simp only [Nat.reduceLT,xq_,X9,aG (aU p),lk,h1,h2,lc,lp,a1,ck,u1,u2,u3,u4]
end
end
end Go.Proofs.YtljogojaihgdlaaGreat
