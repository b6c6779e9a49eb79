/-
  Own work: an interpreter over named blocks, its soundness, and what the functions of this seat compute (part 8 of 11).
  Conditions: those of the statement alone.
-/
import Derived.Shelf.SlGeneric
import Derived.Ground.SlgmProg
import Derived.Ground.GgzProg
import Derived.Shelf.SortM.SortNone
import Derived.Shelf.SortM.Plain
import Derived.Shelf.SlIterI.Nil
import Derived.Test.YtljogojaihgdlaaGreatProg
import Derived.KernelRfl
import Derived.Test.YtljogojaihgdlaaGreatJg
set_option linter.all false
set_option linter.unusedSectionVars false
set_option linter.unusedVariables false
set_option linter.unusedSimpArgs false
namespace Go.Proofs
open Go.Shelf
def Tryz.sortedA_ren:Go.Shelf.Ren:=⟨fun | 6=> 163 | 8=> 184 | 9=> 185 | 11=> 193 | 13=> 195 | 12=> 194 | 23=> 205 | 24=> 206 | 14=> 196 | 15=> 197 | 16=> 198 | 17=> 199 | 18=> 200 | 19=> 201 | 20=> 202 | 21=> 203 | 22=> 204 | 25=> 207 | 26=> 208 | 27=> 209 | 28=> 210 | 29=> 211 | 30=> 212 | 31=> 213 | n=> n,fun | 26=> 3 | 28=> 254 | 24=> 22 | 0=> 0 | 3=> 3 | 37=> 223 | 48=> 234 | 50=> 268 | 4=> 4 | 40=> 293 | 39=> 292 | 45=> 170 | 5=> 5 | 9=> 9 | 51=> 300 | 55=> 304 | 57=> 306 | 58=> 130 | 33=> 118 | n=> n,fun | n=> n⟩
theorem Tryz.sortedA:Go.Proofs.SlLaysZI.n6 Tryz.prog Tryz.sortedA_ren:={
 mixed:=by kernel_rfl
 f6:=⟨Tryz.f163.name,by decide,Tryz.func163.trans (congrArg some (by kernel_rfl))⟩
 f8:=⟨Tryz.f184.name,by decide,Tryz.func184.trans (congrArg some (by kernel_rfl))⟩
 f11:=⟨Tryz.f193.name,by decide,Tryz.func193.trans (congrArg some (by kernel_rfl))⟩
 t0:=Tryz.underlying0
 a0:=Tryz.isAgg0
 z0:=Tryz.sizeOf0
 v0:=Tryz.zeroValue0
 t24:=Tryz.underlying22
 a24:=Tryz.isAgg22
 z24:=Tryz.sizeOf22
 v24:=Tryz.zeroValue22
 t26:=Tryz.underlying3
 a26:=Tryz.isAgg3
 z26:=Tryz.sizeOf3
 v26:=Tryz.zeroValue3
 t28:=Tryz.underlying254
 a28:=Tryz.isAgg254
 z28:=Tryz.sizeOf254
 v28:=Tryz.zeroValue254
 i26:=by kernel_rfl }
def Tryz.keysA_ren:Go.Shelf.Ren:=⟨fun | 7=> 164 | 10=> 186 | n=> n,fun | 23=> 201 | 26=> 3 | 3=> 256 | 28=> 254 | 0=> 0 | 27=> 253 | 33=> 118 | 4=> 4 | n=> n,fun | n=> n⟩
theorem Tryz.keysA:Go.Proofs.SlLaysZI.n7 Tryz.prog Tryz.keysA_ren:={
 mixed:=by kernel_rfl
 f7:=⟨Tryz.f164.name,by decide,Tryz.func164.trans (congrArg some (by kernel_rfl))⟩
 f10:=⟨Tryz.f186.name,by decide,Tryz.func186.trans (congrArg some (by kernel_rfl))⟩
 t0:=Tryz.underlying0
 a0:=Tryz.isAgg0
 z0:=Tryz.sizeOf0
 v0:=Tryz.zeroValue0
 t4:=Tryz.underlying4
 a4:=Tryz.isAgg4
 z4:=Tryz.sizeOf4
 v4:=Tryz.zeroValue4
 t23:=Tryz.underlying201
 a23:=Tryz.isAgg201
 z23:=Tryz.sizeOf201
 v23:=Tryz.zeroValue201
 t26:=Tryz.underlying3
 a26:=Tryz.isAgg3
 z26:=Tryz.sizeOf3
 v26:=Tryz.zeroValue3
 t27:=Tryz.underlying253
 a27:=Tryz.isAgg253
 z27:=Tryz.sizeOf253
 v27:=Tryz.zeroValue253
 t28:=Tryz.underlying254
 a28:=Tryz.isAgg254
 z28:=Tryz.sizeOf254
 v28:=Tryz.zeroValue254
 t33:=Tryz.underlying118
 a33:=Tryz.isAgg118
 z33:=Tryz.sizeOf118
 v33:=Tryz.zeroValue118 }
def Tryz.sortA_ren:Go.Shelf.Ren:=⟨fun | 5=> 185 | 8=> 195 | 7=> 194 | 19=> 205 | 20=> 206 | 10=> 196 | 11=> 197 | 12=> 198 | 13=> 199 | 14=> 200 | 15=> 201 | 16=> 202 | 17=> 203 | 18=> 204 | 30=> 207 | 31=> 208 | 32=> 209 | 33=> 210 | 34=> 211 | 35=> 212 | 40=> 213 | n=> n,fun | 23=> 22 | 25=> 3 | 3=> 3 | 32=> 223 | 22=> 22 | 0=> 0 | 44=> 234 | 46=> 268 | 4=> 4 | 36=> 293 | 35=> 292 | 41=> 170 | 5=> 5 | 9=> 9 | 53=> 300 | 57=> 304 | 63=> 306 | 64=> 130 | n=> n,fun | n=> n⟩
theorem Tryz.sortA:Go.Proofs.SlLaysM.n5 Tryz.prog Tryz.sortA_ren:={
 mixed:=by kernel_rfl
 f5:=⟨Tryz.f185.name,by decide,Tryz.func185.trans (congrArg some (by kernel_rfl))⟩
 f7:=⟨Tryz.f194.name,by decide,Tryz.func194.trans (congrArg some (by kernel_rfl))⟩
 f8:=Tryz.func195.trans (congrArg some (by kernel_rfl))
 f10:=⟨Tryz.f196.name,by decide,Tryz.func196.trans (congrArg some (by kernel_rfl))⟩
 f11:=⟨Tryz.f197.name,by decide,Tryz.func197.trans (congrArg some (by kernel_rfl))⟩
 f12:=⟨Tryz.f198.name,by decide,Tryz.func198.trans (congrArg some (by kernel_rfl))⟩
 f13:=⟨Tryz.f199.name,by decide,Tryz.func199.trans (congrArg some (by kernel_rfl))⟩
 f14:=⟨Tryz.f200.name,by decide,Tryz.func200.trans (congrArg some (by kernel_rfl))⟩
 f15:=⟨Tryz.f201.name,by decide,Tryz.func201.trans (congrArg some (by kernel_rfl))⟩
 f16:=⟨Tryz.f202.name,by decide,Tryz.func202.trans (congrArg some (by kernel_rfl))⟩
 f17:=⟨Tryz.f203.name,by decide,Tryz.func203.trans (congrArg some (by kernel_rfl))⟩
 f18:=⟨Tryz.f204.name,by decide,Tryz.func204.trans (congrArg some (by kernel_rfl))⟩
 f19:=Tryz.func205.trans (congrArg some (by kernel_rfl))
 f20:=Tryz.func206.trans (congrArg some (by kernel_rfl))
 f30:=⟨Tryz.f207.name,by decide,Tryz.func207.trans (congrArg some (by kernel_rfl))⟩
 f31:=Tryz.func208.trans (congrArg some (by kernel_rfl))
 f32:=Tryz.func209.trans (congrArg some (by kernel_rfl))
 f33:=⟨Tryz.f210.name,by decide,Tryz.func210.trans (congrArg some (by kernel_rfl))⟩
 f34:=⟨Tryz.f211.name,by decide,Tryz.func211.trans (congrArg some (by kernel_rfl))⟩
 f35:=⟨Tryz.f212.name,by decide,Tryz.func212.trans (congrArg some (by kernel_rfl))⟩
 f40:=⟨Tryz.f213.name,by decide,Tryz.func213.trans (congrArg some (by kernel_rfl))⟩
 t0:=Tryz.underlying0
 a0:=Tryz.isAgg0
 z0:=Tryz.sizeOf0
 v0:=Tryz.zeroValue0
 t3:=Tryz.underlying3
 a3:=Tryz.isAgg3
 z3:=Tryz.sizeOf3
 v3:=Tryz.zeroValue3
 t4:=Tryz.underlying4
 a4:=Tryz.isAgg4
 z4:=Tryz.sizeOf4
 v4:=Tryz.zeroValue4
 t5:=Tryz.underlying5
 a5:=Tryz.isAgg5
 z5:=Tryz.sizeOf5
 v5:=Tryz.zeroValue5
 t9:=Tryz.underlying9
 a9:=Tryz.isAgg9
 z9:=Tryz.sizeOf9
 v9:=Tryz.zeroValue9
 t22:=Tryz.underlying22
 a22:=Tryz.isAgg22
 z22:=Tryz.sizeOf22
 v22:=Tryz.zeroValue22
 t23:=Tryz.underlying22
 a23:=Tryz.isAgg22
 z23:=Tryz.sizeOf22
 v23:=Tryz.zeroValue22
 t25:=Tryz.underlying3
 a25:=Tryz.isAgg3
 z25:=Tryz.sizeOf3
 v25:=Tryz.zeroValue3
 t32:=Tryz.underlying223
 a32:=Tryz.isAgg223
 z32:=Tryz.sizeOf223
 v32:=Tryz.zeroValue223
 t35:=Tryz.underlying292
 a35:=Tryz.isAgg292
 z35:=Tryz.sizeOf292
 v35:=Tryz.zeroValue292
 t36:=Tryz.underlying293
 a36:=Tryz.isAgg293
 z36:=Tryz.sizeOf293
 v36:=Tryz.zeroValue293
 t41:=Tryz.underlying170
 a41:=Tryz.isAgg170
 z41:=Tryz.sizeOf170
 v41:=Tryz.zeroValue170
 t44:=Tryz.underlying234
 a44:=Tryz.isAgg234
 z44:=Tryz.sizeOf234
 v44:=Tryz.zeroValue234
 t46:=Tryz.underlying268
 a46:=Tryz.isAgg268
 z46:=Tryz.sizeOf268
 v46:=Tryz.zeroValue268
 t53:=Tryz.underlying300
 a53:=Tryz.isAgg300
 z53:=Tryz.sizeOf300
 v53:=Tryz.zeroValue300
 t57:=Tryz.underlying304
 a57:=Tryz.isAgg304
 z57:=Tryz.sizeOf304
 v57:=Tryz.zeroValue304
 t63:=Tryz.underlying306
 a63:=Tryz.isAgg306
 z63:=Tryz.sizeOf306
 v63:=Tryz.zeroValue306
 t64:=Tryz.underlying130
 a64:=Tryz.isAgg130
 z64:=Tryz.sizeOf130
 v64:=Tryz.zeroValue130 }
end Go.Proofs
namespace Go.Proofs.YtljogojaihgdlaaGreat
noncomputable section
open Go.RowKit Go.Maps Go.Sort Go.Shelf
theorem ahK(m:Nat):AnyZI.SortsIn Tryz.prog Tryz.sortedA_ren Fence.wide m:=
 ⟨λblk off cap ss W hH hblk hsz=> callsIn_wide.2 (AnyM.slices_Sort_int Tryz.sortA blk off cap ss W hH hblk hsz),
  λp cap W=> callsIn_wide.2 (AnyM.slices_Sort_int_none Tryz.sortA p cap W)⟩
abbrev ahL:Value->Option (DataW Unit × List MemPlace):=λ_=> some (.lit (.bool true),[])
theorem aml {ρ:Ren}{H:ah}{w w':World}(R:Rel ρ H w)(hb:Below w.heap.size w w'){v:Value}{zs:List Int}{e:TypeId}(h0:zs≠[])(h:w'.ownsRow w.heap.size e 1 v zs.length (zs.map encZ)):
  RV ρ H.gen w' (.vs zs.length 1 (zs.map λn=> .s (.int .i64 n))) v:=by
 obtain⟨_,⟨rfl,h1⟩ | ⟨gb,cap,cur,rfl,h1,h2,h3,h4,h5,h6⟩⟩:=h
 ·exact absurd (zar h1) h0
 ·simp only [RV];refine⟨gb,0,cap,rfl,h3,by simp,(zbv.1 h2).1,OZ R h1,?_⟩;have key:∀(l:List Int) (o:Nat),(∀j,j < l.length->w'.cell? ⟨gb,o+j,none⟩=(l[j]?).map encZ)->RVc ρ H.gen w' (l.map λn=> .s (.int .i64 n)) gb o:=by
   intro l
   induction l with
   | nil=> intro o _;simp only [zbO,RVc]
   | cons a l ih=>
    intro o hc;simp only [zaz,RVc];refine⟨⟨encZ a,by have:=hc 0 (by simp);simpa using this,by simp only [RV]⟩,ih (o+1) λj hj=> ?_⟩;have:=hc (j+1) (by simp only [zal];omega);rw [show o+(j+1)=o+1+j by omega] at this
    simpa using this
  refine key zs 0 λj hj=> ?_;rw [zaW,zbR] at*;have hcj:cur.toList[j]?=(zs.map encZ)[j]?:=by rw [<-h6,zaC,if_pos hj]
  rw [zaM] at hcj;unfold World.cell?;simp only [h2,<-hcj,zcM,zaI,zaf,if_false]
theorem SY:UL 163 (BM DC JB):=by
 have key:∀args H v H',BM DC JB args H=some (v,H')->H'=H/\∃f r g,args=[.fn (.func f) [] [.ref r g 0]]/\f≠0/\
   ((∃ty m es,H.get r=.blk g ty [.mp m]/\ty < gQ/\H.get m=.map .i64 es/\f∈DC/\(es.map (·.1)).Nodup/\(es.all λe=> (Lit.int .i64 e.1).wf)=true/\es.length<=1000000/\v=YP (es.map (·.1)))∨
    (∃ty,H.get r=.blk g ty [.s (.slice none 0 0)]/\ty < gQ/\f∈JB/\v=ajy)):=by
  intro args H v H' h;unfold BM at h;split at h
  ·rename_i f r g;split at h
   ·rename_i g' ty m hr;split at h
    ·rename_i es hm;split at h
     ·rename_i hc;obtain⟨rfl,h1,h2,h3,h4,h5,h6⟩:=hc;cases h;exact⟨rfl,f,r,_,rfl,h2,.inl ⟨ty,m,es,hr,h1,hm,h3,h4,h5,h6,rfl⟩⟩
     ·cases h
    ·cases h
   ·rename_i g' ty hr;split at h
    ·rename_i hc;obtain⟨rfl,h1,h2,h3⟩:=hc;cases h;exact⟨rfl,f,r,_,rfl,h2,.inr ⟨ty,hr,h1,h3,rfl⟩⟩
    ·cases h
   ·cases h
  ·cases h
 refine⟨Jv λargs H v H' h ρ w kT R ha=> ?_,λargs H v H' h=> ?_⟩;rotate_left
 ·rw [(key _ _ _ _ h).1];exact Keeps.refl H
 ·obtain⟨rfl,f,r,g,rfl,hf0,hh⟩:=key _ _ _ _ h;obtain⟨cf,rfl,h1⟩:=RS ha;simp only [RV] at h1;obtain⟨fa,fc,rfl,h2,h3⟩:=h1;have hfa:fa=#[]:=by simp only [RVs] at h2;exact Array.ext' (by simpa using h2)
  subst hfa;obtain⟨cp,rfl,h4⟩:=RS h3;simp only [RV] at h4;obtain⟨a,rfl,h5,h6⟩:=h4;rcases hh with⟨ty,m,es,hr,hty,hm,hk,hnd,hwf,hlen,rfl⟩ | ⟨ty,hr,hty,hv,rfl⟩
  ·have hg:H'.gen r=g:=by simp [ah.gen,hr,fV.gen]
   obtain⟨b,sh,h7,rfl⟩:=h6 hg;have vG:=R.obj r b sh h7;simp only [yG,hr] at vG;obtain⟨cs,e,o1,o2,o3,o4⟩:=vG;obtain⟨o5,rfl,o7⟩:=o4.1 hty;simp only [RVc] at o3;obtain⟨⟨mv,o8,o9⟩,_⟩:=o3;simp only [RV] at o9;obtain⟨bm,rfl,o10⟩:=o9;have o11:=o10 (by simp [ah.gen,hm,fV.gen]);have hmo:=R.obj m bm 0 o11;simp only [yG,hm] at hmo;obtain⟨ces,bZ,m1,_,m3,m4⟩:=hmo;have hkeys:ces.toList.map (λx=> x.key)=(es.map (·.1)).map encZ:=by
    have:∀(es:List (Int × AV)) (l:List MapEntry),RVm ρ H'.gen w .i64 es l->l.map (λx=> x.key)=(es.map (·.1)).map encZ:=by
     intro es
     induction es with
     | nil=> intro l hl;simp only [RVm] at hl;subst hl;rfl
     | cons x es ih=>
      intro l hl;obtain⟨n,y⟩:=x;simp only [RVm] at hl;obtain⟨e,es',rfl,k1,_,k3⟩:=hl;simp only [zaz,k1,ih es' k3]
    exact this es _ m3
   have hsz:ces.size=es.length:=by
    have:=congrArg List.length hkeys
    simpa using this
   have hrd:∀x∈ces.toList,∃n,n∈es.map (·.1)/\x.key=encZ n/\Go.WideElems.rd Tryz.prog 3 ahL x=some (.int .i64 n,.lit (.bool true)):=by
    intro x hx;have hx':x.key∈(es.map (·.1)).map encZ:=by rw [<-hkeys];exact zaG.2 ⟨x,hx,rfl⟩
    obtain⟨n,hn,hxn⟩:=zaG.1 hx';refine⟨n,hn,hxn.symm,?_⟩;have hw:(Lit.int .i64 n).wf=true:=by
     obtain⟨e,he,rfl⟩:=zaG.1 hn;exact zaZ.1 hwf e he
    have hko:keyOf Tryz.prog 3 x.key=some (.int .i64 n):=by
     rw [<-hxn];simp [keyOf,mapKey,Tryz.underlying3,hw]
    exact Go.WideElems.rd_mk (R:=ahL) (key:=x.key) (val:=x.val) (born:=x.born) (yv:=(.lit (.bool true),[])) hko rfl
   have aq1:(ces.toList.map (λx=> x.key)).Nodup:=by
    rw [hkeys];exact zcs.2 (hnd.imp λhab he=> hab (encZ_inj he))
   let D0:DataW Unit:=.map ((ces.toList.map (Go.WideElems.rg Tryz.prog 3 ahL)).foldr DataW.insert []);have hown:w.ownsMap Tryz.prog 3 ahL bm ces.size D0:=⟨ces,bZ,m1,⟨by rw [hsz];unfold maxLen;omega,⟨m4.1,m4.2,aq1⟩,λx hx=> by
    obtain⟨n,_,_,h⟩:=hrd x hx;exact⟨_,h⟩⟩,zac _,rfl⟩
   have hik:(intKeys D0).Perm (es.map (·.1)):=by
    have p1:((ces.toList.map (Go.WideElems.rg Tryz.prog 3 ahL)).foldr DataW.insert []).Perm (ces.toList.map (Go.WideElems.rg Tryz.prog 3 ahL)):=Go.WideShapes.sorted_perm _;have p2:=p1.map λp=> Go.intOf p.1;refine p2.trans ?_;have:(ces.toList.map (Go.WideElems.rg Tryz.prog 3 ahL)).map (λp=> Go.intOf p.1)=es.map (·.1):=by
     rw [zcO];have hinj:∀a b:List Int,a.map encZ=b.map encZ->a=b:=λa b h=> by
      have:=congrArg (List.map λv:Value=> match v with | .int _ n=> n | _=> 0) h
      simpa [zcO,Function.comp_def,encZ] using this
     refine hinj _ _ ?_;rw [<-hkeys,zcO];refine zbr λx hx=> ?_;obtain⟨n,_,hxn,hr⟩:=hrd x hx;simp only [Function.comp_apply,Go.WideElems.rg_of hr,Go.intOf,hxn]
    rw [this]
   have hms:Maps.size D0=es.length:=by
    show((ces.toList.map _).foldr DataW.insert []).length=_;rw [(Go.WideShapes.sorted_perm _).length_eq,zaB,Array.length_toList,hsz]
   have hbl:b < w.heap.size:=(zbv.1 o1).1;obtain rfl:f=186:=by
    simp only [DC,zaj,zaw,or_false] at hk;rcases hk with hk | hk
    ·exact hk
    ·exact absurd hk hf0
   have hseq:SeqGives Fence.wide 2 Tryz.prog 186 #[.pointer (some ⟨b,0,none⟩)] encZ (λss=> ss.Perm (intKeys D0)) (Maps.size D0) w:=
    AnyZI.keys_gives (ρ:=Tryz.keysA_ren) { Tryz.keysA with } Fence.wide _ trivial rfl (by omega) b bm _ D0 w hbl o8 hown
   have cS:=AnyZI.sorted_in Tryz.sortedA Fence.wide 5 trivial trivial trivial trivial rfl (by omega) (ahK _) (enters_of Tryz.func185 (by kernel_rfl) rfl) 186 #[.pointer (some ⟨b,0,none⟩)] trivial (enters_of Tryz.func186 (by kernel_rfl) rfl) _ _ (by rw [hms];unfold maxLen;omega) (by rw [hms];omega) _ hseq;refine((callsIn_wide (n:=5)).1 cS).mono λe w' ⟨v,ss,he,hp,hrow,hnil,hB⟩=> ?_;obtain⟨r1,r2⟩:=Gs R hB;have hpp:=hp.trans hik;refine⟨v,ρ,he,r1,?_,r2⟩;unfold YP;split
   ·rename_i hz;rw [hz] at hpp;have:=hnil.2 hpp.eq_nil;subst this;simp only [ajy,RV]
   ·rename_i hz;have hlen2:ss.length=(es.map (·.1)).length:=hpp.length_eq;rw [mergeSort_of_perm_i hpp] at hrow;have hml:((es.map (·.1)).mergeSort leI).length=(es.map (·.1)).length:=List.length_mergeSort _;have:=aml R hB (zs:=(es.map (·.1)).mergeSort leI) (λh=> hz (by
     rw [h] at hml;exact zar hml.symm)) (by rw [hml,<-hlen2];exact hrow)
    rw [hml] at this;exact this
  ·have hg:H'.gen r=g:=by simp [ah.gen,hr,fV.gen]
   obtain⟨b,sh,h7,rfl⟩:=h6 hg;have vG:=R.obj r b sh h7;simp only [yG,hr] at vG;obtain⟨cs,e,o1,o2,o3,o4⟩:=vG;obtain⟨o5,rfl,o7⟩:=o4.1 hty;simp only [RVc] at o3;obtain⟨⟨mv,o8,o9⟩,_⟩:=o3;simp only [RV] at o9;subst o9;have hbl:b < w.heap.size:=(zbv.1 o1).1;simp only [JB,zaj,zaw,or_false] at hv;exact absurd hv hf0
open Go.RowKit
theorem ahM:∀x∈agT,UL x.1 x.2:=by
 unfold agT;refine zb9.2 ⟨SY,?_⟩;refine zb9.2 ⟨agU _,?_⟩;refine zb9.2 ⟨SX,?_⟩;refine zb9.2 ⟨agU _,?_⟩;refine zb9.2 ⟨agU _,?_⟩;refine zb9.2 ⟨⟨λf args H v H' h=> ?_,λargs H v H' h=> (by cases h)⟩,λx hx=> (by cases hx)⟩;simp only at h;split at h <;> cases h
theorem JU {α:Type}{f:Nat}{p:α}:∀{l:List (Nat × α)},l.lookup f=some p->(f,p)∈l
 | [],h=> by cases h
 | (k,q)::l,h=> by
  rw [List.lookup_cons] at h;split at h
  ·rename_i e;cases h;rw [beq_iff_eq] at e;subst e;simp
  ·exact za9 _ (JU h)
theorem amm:V9 Tryz.prog pol:=λf p h=> ahM (f,p) (JU h)
theorem Vr:kC cl:=(callω_ok (P:=Tryz.prog) amm (by kernel_rfl)).2
open Go.ChangeShapes Go.WideShapes Go.ChangeAt Go.RowKit
theorem apj:V9 Tryz.prog pol:=
 amm
theorem aq2 {w:World}:abo ρ0 w:=⟨λb hb=> (by cases hb),trivial⟩
theorem apk:ownKnob Tryz.prog.godebug=none:=by kernel_rfl
theorem amn:laidOutB Tryz.prog=true:=by kernel_rfl
theorem ahN:Tryz.prog.follows .mixedOrders=true:=by kernel_rfl
theorem adi:Tryz.prog.cellTypes Tryz.prog.depth 24=some [3,3,3,3,3,3,3,22,22,22,22,22]:=by kernel_rfl
set_option maxRecDepth 100000 in
theorem amo {H:Type}{enc:TypeId × Value->H}{W:World}{r:Reach}{b0 base:Nat}{sp:Nat->Bool}{held:Bool}{v:Value}{d:DataW H}{ps:List MemPlace}(hval:Value.okWide Tryz.prog W r b0 24 v)(h:DataW.Trod enc Tryz.prog W base sp held 24 v d ps):
  ∃(s:mG) (zi zw zk za zv:List Int),RV ρ0 G0 W (.agg s.cells) v/\s.Ok zi zw zk za zv:=
 Ws Tryz.underlying24 adi (by kernel_rfl) (by kernel_rfl) Tryz.underlying3 (by kernel_rfl) Tryz.underlying22 (by kernel_rfl) Tryz.underlying3 (by kernel_rfl) hval h
theorem Vs(p:Pkt){d:Nat}:∀x∈p.av,Frz (d+2) x:=λx hx=> by
 simp only [Pkt.av,zaj,zaw,or_false] at hx;rcases hx with rfl | rfl | rfl | rfl | rfl | rfl | rfl | rfl | rfl <;> first | exact iZ | exact uJ
section
variable {b:Nat}{H:ah}{g:bD}{q:Nat}
theorem anb(a c:Bool):bi .neq 4 (B a) (B c)=some (B (a !=c)):=by
 rw [ac0];cases a <;> cases c <;> rfl
theorem amq(G:Good b H g)(hb:H.base<=b){c:Cfg}{dD:Rows}(h:g q=some (EL c dD))(aj aT head:Int)(data:List Int)(hl:data.length < 1000000000):
  ∃H',cl 188 [.ref q 0 0,I aj,I aT,I head,dat data] H=some (I (iC c dD aj aT head data).2,H')/\Good b H' (upd g q (EL c (iC c dD aj aT head data).1))/\Step b H H':=by
 obtain⟨r,f1,f2,_⟩:=G.map h (i:=8) rfl;have f3:=f2 (.agg #[.int .i64 0,.int .i64 0,.slice none 0 0]) aj true;rw [xq] at f3;have hb0:H.base<=H.next:=zax hb G.1
 refine jY rfl rfl (alM _ _ _ _ _ _ _) ?_;cases hr:jh dD aj with
 | none=>
  simp only [hr,zcX,if_true] at f3;have hp:iC c dD aj aT head data=(dD,3):=by simp only [iC,hr]
  have zc:AV.cells (.s (.agg #[.int .i64 0,.int .i64 0,.slice none 0 0]))=[zI,zI,zN]:=rfl;have zn:zN.aQ=true:=rfl;rw [hp];refine⟨H.new (.blk 0 199 [zI,zI,zN]),?_,by rw [fJ h];exact G.new _,Step.new _ G.1⟩;simp only [Int.reduceNeg,Nat.reduceAdd,aW,xq_,hq_,yD,f1,f3,zc,zn,hb0,zam]
 | some w=>
  simp only [hr,zak,if_true] at f3;let H1:=H.new (.blk 0 199 w.av);have G1:Good b H1 g:=G.new _;have l0:=G1.load h (i:=0) (x:=I c.aH) rfl;have l2:=G1.load h (i:=2) (x:=I c.dh) rfl;have e2:=λH=> (nN H data).lnS;have e5:=λH=> lD H data hl;by_cases hbad:aT < 0∨2 < aT∨head < -1∨c.aH<=head
  ·have hp:iC c dD aj aT head data=(dD,1):=by simp only [iC,hr];rw [if_pos hbad]
   rw [hp];refine⟨H1,?_,by rw [fJ h];exact G1,Step.new _ G.1⟩;simp only [H1] at l0 l2;by_cases s0:aT < 0
   ·simp only [Int.reduceNeg,Nat.reduceAdd,aW,xq_,hq_,yD,f1,f3,hb0,zae,s0];rfl
   ·by_cases s2:2 < aT
    ·simp only [Int.reduceNeg,Nat.reduceAdd,aW,xq_,hq_,yD,f1,f3,hb0,zae,s0,s2];rfl
    ·by_cases s3:head < -1
     ·simp only [Int.reduceNeg,Nat.reduceAdd,aW,xq_,hq_,yD,f1,f3,hb0,zae,s0,s2,s3];rfl
     ·have s4:c.aH<=head:=by omega
      simp only [Int.reduceNeg,Nat.reduceAdd,aW,xq_,hq_,yD,f1,f3,hb0,zae,s0,s2,s3,l0,s4];rfl
  ·have s0:¬aT < 0:=λh=> hbad (.inl h);have s2:¬2 < aT:=λh=> hbad (.inr (.inl h));have s3:¬head < -1:=λh=> hbad (.inr (.inr (.inl h)));have s4:¬c.aH<=head:=λh=> hbad (.inr (.inr (.inr h)));have hdl:decide (data≠[])=decide ((data.length:Int)≠0):=by
    cases data with
    | nil=> rfl
    | cons a l=>
     have:((a::l).length:Int)≠0:=by simp only [zal];omega
     simp only [this,ne_eq,not_false_eq_true,decide_true];rfl
   by_cases hw:((decide (head=-1) !=decide (aT=0)) || (decide (data≠[]) && decide ((data.length:Int)≠c.dh)))=true
   ·have hp:iC c dD aj aT head data=(dD,1):=by simp only [iC,hr];rw [if_neg hbad,if_pos hw]
    rw [hp];refine⟨H1,?_,by rw [fJ h];exact G1,Step.new _ G.1⟩;simp only [H1] at l0 l2;rw [hdl] at hw;cases hx:(decide (head=-1) !=decide (aT=0)) with
    | true=>
     simp only [Int.reduceNeg,Nat.reduceAdd,aW,xq_,hq_,yD,f1,f3,hb0,zae,s0,s2,s3,l0,s4,anb,hx];rfl
    | false=>
     rw [hx,zcB,zah] at hw;have w1:¬(data.length:Int)=0:=of_decide_eq_true hw.1;have w2:¬(data.length:Int)=c.dh:=of_decide_eq_true hw.2;simp only [Int.reduceNeg,Nat.reduceAdd,Nat.reduceLeDiff,aW,xq_,hq_,yD,f1,f3,hb0,zae,zam,s0,s2,s3,l0,s4,anb,hx,e2,w1,l2,w2];rfl
   ·have hp:iC c dD aj aT head data=(lK dD aj ⟨aT,head,if data=[] then w.data else data⟩,0):=by simp only [iC,hr];rw [if_neg hbad,if_neg hw]
    rw [hp];rw [hdl] at hw;have hx:(decide (head=-1) !=decide (aT=0))=false:=by cases h1:(decide (head=-1) !=decide (aT=0)) <;> simp_all
    rw [hx,zcB] at hw;let nr:Row:=⟨aT,head,if data=[] then w.data else data⟩
    let H2:=H.new (.blk 0 199 nr.av);have G2:Good b H2 g:=G.new _;obtain⟨r',k1,_,_,k2⟩:=G2.map h (i:=8) rfl;obtain⟨H',m1,m2,m3,m4⟩:=(k2 hb).1 aj (.agg nr.av);refine⟨H',?_,?_,(Step.new _ G.1).trans m3⟩
    ·simp only [H1,Row.av] at l0 l2;simp only [H2,nr,Row.av] at k1 m1;by_cases hd:data=[]
     ·subst hd;simp only [if_true] at k1 m1;have z1:((([]:List Int).length:Nat):Int)=0:=rfl;have z2:(((0:Nat)):Int)=0:=rfl;simp only [Int.reduceLT,Int.reduceNeg,Nat.reduceAdd,aW,xq_,hq_,yD,EK,f1,f3,hb0,zae,s0,s2,s3,l0,s4,anb,hx,e2,z2,Row.av,k1,m1]
     ·have w1:¬(data.length:Int)=0:=λh=> hd (zar (by omega));have w3:(0:Int) < data.length:=by omega
      have w2:(data.length:Int)=c.dh:=by
       rw [decide_eq_true (show(data.length:Int)≠0 from w1),zbn] at hw;exact Classical.byContradiction λh=> hw (decide_eq_true h)
      simp only [hd,if_false] at k1 m1;rw [w2] at w1 w3;simp only [Int.reduceNeg,Nat.reduceAdd,aW,xq_,hq_,yD,EK,f1,f3,hb0,zae,zam,s0,s2,s3,l0,s4,anb,hx,e2,w2,l2,w1,w3,e5,Row.av,k1,m1]
    ·rw [Gn (λr:Row=> AV.agg r.av)] at m2;exact m2
end
theorem WX {c:Cfg}{dD:Rows}{aj aT head:Int}{data:List Int}(h:(iC c dD aj aT head data).2≠0):(iC c dD aj aT head data).1=dD:=by
 unfold iC at h ⊢;cases hr:jh dD aj with
 | none=> rfl
 | some w=>
  rw [hr] at h;simp only at h ⊢;split at h
  ·rename_i h1;rw [if_pos h1]
  ·rename_i h1;rw [if_neg h1];split at h
   ·rename_i h2;rw [if_pos h2]
   ·exact absurd rfl h
section
variable {b:Nat}{H:ah}{g:bD}{q d tt:Nat}{c:Cfg}{me:Int}{h:Home}
theorem nS.sub {g':bD}(N:nS g q d tt c me h)(hs:ru g g'):nS g' q d tt c me h:=⟨hs _ _ N.1,hs _ _ N.2.1,hs _ _ N.2.2⟩
theorem JV(G:Good b H g)(N:nS g q d tt c me h)(hd:∀e∈h.dD,e.2.data.length < 1000000000)(aj who id:Int):
  cl 126 [.ref q 0 0,I aj,I who,I id] H=some (.agg (granted h.dD me aj who id).av,H):=by
 refine dJ rfl rfl (akR _ _ _ _ _ _) ?_ (nG (Vs _));have G1:=G.guard.new (.blk 0 112 [zI,zI,zI,zI,zI,zI,zI,zB,zN]);have l1:=G1.load N.1 (i:=0) (x:=.ref d 0 0) rfl;have e1:=al4 G1 N.2.1 hd aj;have G2:=G1.new (.blk 0 199 (jc h.dD aj).av);have l2:=G2.load N.1 (i:=10) (x:=I me) rfl;have lr0:(jc h.dD aj).av[0]?=some (I (jc h.dD aj).aT):=rfl;have lr1:(jc h.dD aj).av[1]?=some (I (jc h.dD aj).head):=rfl;have lr2:(jc h.dD aj).av[2]?=some (dat (jc h.dD aj).data):=rfl;simp only [Nat.reduceAdd,Nat.reduceLeDiff,aW,xq_,hq_,ae6,l1,e1,l2,lr0,lr1,lr2,qA,kE,gX,F5,granted,Pkt.av]
def kW(g:bD)(d tt:Nat)(c:Cfg)(h:Home):bD:=upd (upd g d (EL c h.dD)) tt (iP h.aP)
theorem nS.ne(N:nS g q d tt c me h):q≠d/\q≠tt/\d≠tt:=by
 refine⟨λe=> ?_,λe=> ?_,λe=> ?_⟩
 ·have h1:=N.1;have h2:=N.2.1;subst e;rw [h1] at h2;have:=congrArg List.length (za2 h2);simp [GY,EL,Cfg.av] at this
 ·have h1:=N.1;have h2:=N.2.2;subst e;rw [h1] at h2;have:=congrArg List.length (za2 h2);simp [GY,iP,Cfg.av] at this
 ·have h1:=N.2.1;have h2:=N.2.2;subst e;rw [h1] at h2;have:=congrArg List.length (za2 h2);simp [EL,iP,Cfg.av] at this
theorem nS.ahO(N:nS g q d tt c me h)(h':Home):nS (kW g d tt c h') q d tt c me h':=by
 obtain⟨n1,n2,n3⟩:=N.ne;exact⟨by unfold kW;rw [bH n2,bH n1];exact N.1,by unfold kW;rw [bH n3,aV],by unfold kW;rw [aV]⟩
theorem ER(N:nS g q d tt c me h):kW g d tt c h=g:=by
 obtain⟨n1,n2,n3⟩:=N.ne;unfold kW;rw [fJ N.2.1,fJ N.2.2]
theorem Qi {g':bD}(h:ru g g')(h':Home):ru (kW g d tt c h') (kW g' d tt c h'):=(h.both d _).both tt _
theorem y7(N:nS g q d tt c me h)(t:Turns):kW g d tt c { h with aP:=t }=upd g tt (iP t):=by
 unfold kW;rw [fJ N.2.1]
theorem aaw(G:Good b H g)(hb:H.base<=b)(N:nS g q d tt c me h)(p:Pkt)(hl:p.data.length < 1000000000):
  ∃H',cl 170 [.ref q 0 0,.agg p.av] H=some (I (h.unlock c p).2,H')/\Good b H' (kW g d tt c (h.unlock c p).1)/\Step b H H':=by
 have hb0:H.base<=H.next:=zax hb G.1
 obtain⟨n1,n2,n3⟩:=N.ne;refine jY rfl rfl (aly _ _ _ _) ?_;let H1:=H.new (.blk 0 112 p.av);have G1:=G.newObj (ty:=112) (xs:=p.av) (aS p);have S1:ru g (upd g H.next (p.av.map Cell.av)):=(ru.refl g).more (G.isNone (zac _)) _;have N1:=N.sub S1;have l1:=G1.load N1.1 (i:=1) (x:=.ref tt 0 0) rfl;have o1:=WO G1.guard N1.2.2 p.aj;have p1:=G1.load aV (i:=1) (x:=I p.src) rfl;have p4:=G1.load aV (i:=4) (x:=I p.aj) rfl;have p5:=G1.load aV (i:=5) (x:=I p.ptr) rfl;have p6:=G1.load aV (i:=6) (x:=I p.aT) rfl;have p7:=G1.load aV (i:=7) (x:=B p.flag) rfl;have p8:=G1.load aV (i:=8) (x:=dat p.data) rfl;by_cases ho:h.aP.owner p.aj=p.src;rotate_left
 ·have hp:h.unlock c p=(h,6):=by simp only [Home.unlock];rw [if_pos ho]
  rw [hp,ER N];refine⟨H1,?_,G1.sub S1,Step.new _ G.1⟩;simp only [Nat.reduceLT,xq_,JF,aG (aS p),l1,p4,o1,p1,ho,zam];rfl
 ·have l0:=G1.load N1.1 (i:=0) (x:=.ref d 0 0) rfl;let dd:=if p.flag then p.data else [];obtain⟨H2,s1,s2,s3⟩:=amq G1 (by rw [jC];exact hb) N1.2.1 p.aj p.aT p.ptr dd (by simp only [dd];split <;> first | exact hl | exact(by simp));have hd0:dat ([]:List Int)=zN:=by simp [dat,gI]
  have fl:∀k:AV->Option (AV × ah),(if p.flag=true then k (dat p.data) else k zN)=k (dat dd):=λk=> by
   simp only [dd];cases p.flag with
   | true=> rfl
   | false=> simp only [zaf,if_false,hd0]
  by_cases hz:(iC c h.dD p.aj p.aT p.ptr dd).2=0;rotate_left
  ·have hp:h.unlock c p=(h,(iC c h.dD p.aj p.aT p.ptr dd).2):=by
    simp only [Home.unlock];rw [if_neg (λhn=> hn ho),if_neg hz]
   rw [hp,ER N];rw [WX hz,fJ N1.2.1] at s2;refine⟨H2,?_,s2.sub S1,(Step.new _ G.1).trans s3⟩;have hz':¬(iC c h.dD p.aj p.aT p.ptr dd).2=0:=hz;cases hf:p.flag with
   | true=>
    have:dd=p.data:=by simp only [dd,hf,if_true]
    rw [this] at s1 hz' ⊢;rw [hf] at p7;simp only [Nat.reduceLT,xq_,JF,xF,aG (aS p),l1,p4,o1,p1,ho,zae,p7,p8,l0,p6,p5,s1,hz',zam]
   | false=>
    have:dd=[]:=by simp only [dd,hf,zaf,if_false]
    rw [this,hd0] at s1;rw [this] at hz' ⊢;rw [hf] at p7;simp only [Nat.reduceLT,xq_,JF,xF,aG (aS p),l1,p4,o1,p1,ho,zae,p7,p8,l0,p6,p5,s1,hz',zam]
  ·have hp:h.unlock c p=(⟨(iC c h.dD p.aj p.aT p.ptr dd).1,(h.aP.release p.aj p.src).1⟩,(h.aP.release p.aj p.src).2):=by
    simp only [Home.unlock];rw [if_neg (λhn=> hn ho),if_pos hz]
   rw [hp];have hqn:=G.ne N.2.2;have hdn:=G.ne N.2.1;have hhn:=G.ne N.1;have k1:upd (upd g H.next (p.av.map Cell.av)) d (EL c (iC c h.dD p.aj p.aT p.ptr dd).1) H.next=some (p.av.map Cell.av):=by rw [bH hdn.symm,aV]
   have k2:upd (upd g H.next (p.av.map Cell.av)) d (EL c (iC c h.dD p.aj p.aT p.ptr dd).1) q=some (GY d tt c me):=by rw [bH n1];exact N1.1
   have k3:upd (upd g H.next (p.av.map Cell.av)) d (EL c (iC c h.dD p.aj p.aT p.ptr dd).1) tt=some (iP h.aP):=by rw [bH n3.symm];exact N1.2.2
   have r1:=s2.load k1 (i:=1) (x:=I p.src) rfl;have r4:=s2.load k1 (i:=4) (x:=I p.aj) rfl;have rl:=s2.load k2 (i:=1) (x:=.ref tt 0 0) rfl;obtain⟨H3,t1,t2,t3⟩:=Qc s2 (by rw [s3.base,jC];exact hb) k3 p.aj p.src;refine⟨H3,?_,t2.sub (Qi S1 _),((Step.new _ G.1).trans s3).trans t3⟩;rw [hz] at s1;cases hf:p.flag with
   | true=>
    have:dd=p.data:=by simp only [dd,hf,if_true]
    rw [this] at s1;rw [hf] at p7;simp only [Nat.reduceLT,xq_,JF,xF,aG (aS p),l1,p4,o1,p1,ho,zae,p7,p8,l0,p6,p5,s1,rl,r1,r4,t1]
   | false=>
    have:dd=[]:=by simp only [dd,hf,zaf,if_false]
    rw [this,hd0] at s1;rw [hf] at p7;simp only [Nat.reduceLT,xq_,JF,xF,aG (aS p),l1,p4,o1,p1,ho,zae,p7,p8,l0,p6,p5,s1,rl,r1,r4,t1]
end
section
variable {b:Nat}{H:ah}{g:bD}{q d tt:Nat}{c:Cfg}{me:Int}{h:Home}
abbrev zP9:List AV:=[zI,zI,zI,zI,zI,zI,zI,zB,zN]
def Vt(r:Home × Pkt × Bool × Int):AV:=.tup [.agg r.2.1.av,B r.2.2.1,I r.2.2.2]
theorem aax(G:Good b H g)(hb:H.base<=b)(N:nS g q d tt c me h)(hc:c.ok=true)(hw:(h.aP.wait.map (·.1)).Nodup)(hwl:∀aj,(h.aP.ws aj).length < 1000000)(hr:∀e∈h.dD,e.2.data.length < 1000000000)(p:Pkt)(hl:p.data.length < 1000000000):
  ∃H',cl 129 [.ref q 0 0,.agg p.av] H=some (Vt (h.handle c me p),H')/\Good b H' (kW g d tt c (h.handle c me p).1)/\Step b H H':=by
 have hb0:H.base<=H.next:=zax hb G.1
 obtain⟨n1,n2,n3⟩:=N.ne;refine jY rfl rfl (akU _ _ _ _) ?_;let H1:=H.new (.blk 0 112 p.av);let H2:=H1.new (.blk 0 112 zP9);have Ga:=G.newObj (ty:=112) (xs:=p.av) (aS p);have G2:=Ga.newObj (ty:=112) (xs:=zP9) rfl;let g2:=upd (upd g H.next (p.av.map Cell.av)) (H.next+1) (zP9.map Cell.av);have e12:(H.new (.blk 0 112 p.av)).next=H.next+1:=fE
 have S2:ru g g2:=((ru.refl g).more (G.isNone (zac _)) _).more (G.isNone (za3 _)) _;have N2:=N.sub S2;have st2:Step b H H2:=(Step.new _ G.1).trans (Step.new _ (G.new _).1);have hp1:g2 H.next=some (p.av.map Cell.av):=by simp only [g2];rw [bH (by omega),aV]
 have hp2:g2 (H.next+1)=some (zP9.map Cell.av):=aV;have G2':Good b H2 g2:=G2;have p0:=G2'.load hp1 (i:=0) (x:=I p.aO) rfl;have p1:=G2'.load hp1 (i:=1) (x:=I p.src) rfl;have p2:=G2'.load hp1 (i:=2) (x:=I p.dst) rfl;have p3:=G2'.load hp1 (i:=3) (x:=I p.id) rfl;have p4:=G2'.load hp1 (i:=4) (x:=I p.aj) rfl;have pa:=G2'.loads hp1 (i:=0) (n:=9) (xs:=p.av) rfl rfl (by decide);have l10:=G2'.load N2.1 (i:=10) (x:=I me) rfl;have l2:=G2'.load N2.1 (i:=2) (x:=I c.aH) rfl;have l3:=G2'.load N2.1 (i:=3) (x:=I c.bg) rfl;have la:=G2'.loads N2.1 (i:=2) (n:=8) (xs:=c.av) rfl rfl (by decide);have lt:=G2'.load N2.1 (i:=1) (x:=.ref tt 0 0) rfl;have ck:=Aw H2 p;have ho:=GX H2.guard c hc p.aj;have ez:bd 112 []=some (.agg zP9):=by simp only [xq_,qA,kE,eu]
 -- the zero packet is laid anew
 have zst:∀{K:ah} {gk:bD},Good b K gk->K.base<=b->gk (H.next+1)=some (zP9.map Cell.av)->∀{y:List AV},y.length=9->y.all AV.aQ=true->∃K',st 9 (.ref (H.next+1) 0 0) (.agg y) K=some (aZ,K')/\lda 9 (.ref (H.next+1) 0 0) K'=some (.agg y,K')/\Good b K' (upd gk (H.next+1) (y.map Cell.av))/\Step b K K':=by
  intro K gk Gk hk hz y hy ha;obtain⟨K',t1,t2,t3,t4⟩:=Gk.stores hk hz (i:=0) (n:=9) (vs:=y) (by simp) hy ha;have e:mF (zP9.map Cell.av) 0 y=y.map Cell.av:=by
   unfold mF;rw [zaQ (by simp [hy])];simp
  rw [e] at t2;exact⟨K',t1,t2.loads aV (i:=0) (n:=9) (xs:=y) (by rw [zaP,zaA (by simp [hy])]) hy (by decide),t2,t3⟩
 obtain⟨Hz,z1,z2,z3,z4⟩:=zst G2' (by simp only [H2,H1,jC];exact hb) hp2 (y:=zP9) rfl rfl;have Sz:∀{gk:bD} {y:List Cell},ru gk (upd gk (H.next+1) y)->True:=λ_=> trivial;have zg:Good b Hz g:=z3.sub λq' cs h=> by
  have hne:q'≠H.next+1:=λe=> by
   have:=G.lt h;omega
  rw [bH hne];exact S2 _ _ h
 simp only [H2,H1] at p0 p1 p2 p3 p4 pa l10 l2 l3 la lt ck ho z1 z2;have bad:∀e:Int,h.handle c me p=(h,.zero,false,e)->∀H',H'=Hz->Good b H' (kW g d tt c (h.handle c me p).1)/\Step b H H':=λe he H' hH=> by
  rw [he,ER N,hH];exact⟨zg,st2.trans z4⟩
 by_cases h1:(!(p.ok && decide (p.dst=me) && decide (p.src < c.aH)) || (decide (p.aO≠1) && decide (p.aO≠2)))=true
 ·have hp:h.handle c me p=(h,.zero,false,1):=by simp only [Home.handle];rw [if_pos h1]
  refine⟨Hz,?_,bad 1 hp Hz rfl⟩;rw [hp];cases hok:p.ok with
  | false=>
   rw [hok] at ck;simp only [Nat.reduceLT,Int.reduceEq,xq_,tq,aG (aS p),pa,ck,zam,ez,z1,z2,Vt,fH]
  | true=>
   rw [hok] at ck h1;by_cases hds:p.dst=me
   ·by_cases hsr:p.src < c.aH
    ·simp only [hds,hsr,decide_true,zcq,zae,zcB,zah,decide_eq_true_eq] at h1;have k1:=h1.1;have k2:=h1.2;simp only [ne_eq] at k1 k2;simp only [Nat.reduceLT,xq_,tq,aG (aS p),pa,ck,p2,l10,hds,p1,l2,hsr,zae,zam,p0,k1,k2,ez,z1,z2,Vt,fH]
    ·simp only [Nat.reduceLT,xq_,tq,aG (aS p),pa,ck,p2,l10,hds,p1,l2,hsr,zam,ez,z1,z2,Vt,fH]
   ·simp only [Nat.reduceLT,xq_,tq,aG (aS p),pa,ck,p2,l10,hds,zam,ez,z1,z2,Vt,fH]
 ·have hcond:p.ok=true/\p.dst=me/\p.src < c.aH/\(p.aO=1∨p.aO=2):=by
   simp only [zbe,zaY,zcQ,decide_eq_false_iff_not,zah,decide_eq_true_eq,not_or,not_and,Classical.not_not] at h1;obtain⟨⟨⟨a1,a2⟩,a3⟩,a4⟩:=h1;refine⟨by simpa using a1,a2,a3,?_⟩;by_cases hk:p.aO=1
   ·exact .inl hk
   ·exact .inr (a4 hk)
  obtain⟨hok,hds,hsr,hkind⟩:=hcond;rw [hok] at ck;have hk12:(p.aO=1/\True)∨(¬p.aO=1/\p.aO=2):=by
   rcases hkind with hk | hk
   ·exact .inl ⟨hk,trivial⟩
   ·exact .inr ⟨by omega,hk⟩
  by_cases h2:c.aX p.aj≠me∨c.bg<=p.aj
  ·have hp:h.handle c me p=(h,.zero,false,3):=by simp only [Home.handle];rw [if_neg h1,if_pos h2]
   refine⟨Hz,?_,bad 3 hp Hz rfl⟩;rw [hp];rcases hk12 with⟨hk,_⟩ | ⟨hk0,hk⟩
   ·by_cases hh:c.aX p.aj=me
    ·have hl2:c.bg<=p.aj:=h2.resolve_left (λh=> h hh);simp only [Nat.reduceLT,Nat.reduceAdd,xq_,tq,aG (aS p),pa,ck,p2,l10,hds,p1,l2,hsr,zae,p0,hk,la,p4,ho,hh,l3,hl2,ez,z1,z2,Vt,fH]
    ·simp only [Nat.reduceLT,xq_,tq,aG (aS p),pa,ck,p2,l10,hds,p1,l2,hsr,zae,zam,p0,hk,la,p4,ho,hh,ez,z1,z2,Vt,fH]
   ·by_cases hh:c.aX p.aj=me
    ·have hl2:c.bg<=p.aj:=h2.resolve_left (λh=> h hh);simp only [Nat.reduceLT,Int.reduceEq,Nat.reduceAdd,xq_,tq,aG (aS p),pa,ck,p2,l10,hds,p1,l2,hsr,zae,zam,p0,hk,la,p4,ho,hh,l3,hl2,ez,z1,z2,Vt,fH]
    ·simp only [Nat.reduceLT,Int.reduceEq,xq_,tq,aG (aS p),pa,ck,p2,l10,hds,p1,l2,hsr,zae,zam,p0,hk,la,p4,ho,hh,ez,z1,z2,Vt,fH]
  ·have hh:c.aX p.aj=me:=Classical.byContradiction λh=> h2 (.inl h);have hl2:¬c.bg<=p.aj:=λh=> h2 (.inr h);rcases hk12 with⟨hk,_⟩ | ⟨hk0,hk⟩
   ·obtain⟨K1,a1,a2,a3⟩:=ac8 G2' (by simp only [H2,H1,jC];exact hb) N2.2.2 hw p.aj p.src p.id (hwl p.aj);have NK:=N2.ahO { h with aP:=(h.aP.ask p.aj p.src p.id).1 };rw [y7 N2] at NK;have hqt:tt≠H.next:=G.ne N.2.2
    have amr:tt≠H.next+1:=by have:=G.lt N.2.2;omega
    have k1:upd g2 tt (iP (h.aP.ask p.aj p.src p.id).1) H.next=some (p.av.map Cell.av):=by rw [bH hqt.symm];exact hp1
    have k2:upd g2 tt (iP (h.aP.ask p.aj p.src p.id).1) (H.next+1)=some (zP9.map Cell.av):=by rw [bH amr.symm];exact hp2
    have hbK:K1.base<=b:=by rw [a3.base];simp only [H2,H1,jC];exact hb
    have fin:∀{K2:ah} {y:List Cell},Good b K2 (upd (upd g2 tt (iP (h.aP.ask p.aj p.src p.id).1)) (H.next+1) y)->Good b K2 (kW g d tt c { h with aP:=(h.aP.ask p.aj p.src p.id).1 }):=λGk=> Gk.sub (by
     rw [y7 N];refine((S2.both tt _).more (zQ (G.isNone (za3 _)) amr.symm) _))
    have kk:¬((1:Int)=2):=by decide
    simp only [H2,H1] at a1;cases ha:(h.aP.ask p.aj p.src p.id).2 with
    | false=>
     have hp:h.handle c me p=({ h with aP:=(h.aP.ask p.aj p.src p.id).1 },.zero,false,0):=by
      simp only [Home.handle];rw [if_neg h1,if_neg h2,if_pos hk];rw [if_neg (by rw [ha];decide)]
     rw [hp];rw [ha] at a1;obtain⟨K2,y1,y2,y3,y4⟩:=zst a2 hbK k2 (y:=zP9) rfl rfl;refine⟨K2,?_,fin y3,(st2.trans a3).trans y4⟩;simp only [Nat.reduceLT,Nat.reduceAdd,xq_,tq,aG (aS p),pa,ck,p2,l10,hds,p1,l2,hsr,zae,zam,p0,hk,la,p4,ho,hh,l3,hl2,lt,p3,a1,ez,y1,y2,Vt,fH]
    | true=>
     have hp:h.handle c me p=({ h with aP:=(h.aP.ask p.aj p.src p.id).1 },granted h.dD me p.aj p.src p.id,true,0):=by
      simp only [Home.handle];rw [if_neg h1,if_neg h2,if_pos hk];rw [if_pos ha]
     rw [hp];rw [ha] at a1;have q1:=a2.load k1 (i:=1) (x:=I p.src) rfl;have q3:=a2.load k1 (i:=3) (x:=I p.id) rfl;have q4:=a2.load k1 (i:=4) (x:=I p.aj) rfl;have gr:=JV a2 NK hr p.aj p.src p.id;obtain⟨K2,y1,y2,y3,y4⟩:=zst a2 hbK k2 (y:=(granted h.dD me p.aj p.src p.id).av) (bU _) (aS _);refine⟨K2,?_,fin y3,(st2.trans a3).trans y4⟩;simp only [Nat.reduceLT,Nat.reduceAdd,xq_,tq,aG (aS p),pa,ck,p2,l10,hds,p1,l2,hsr,zae,p0,hk,la,p4,ho,hh,l3,hl2,lt,p3,a1,q1,q3,q4,gr,y1,y2,Vt]
   ·obtain⟨K1,a1,a2,a3⟩:=aaw G2' (by simp only [H2,H1,jC];exact hb) N2 p hl;have hqt:tt≠H.next:=G.ne N.2.2
    have amr:tt≠H.next+1:=by have:=G.lt N.2.2;omega
    have hqd:d≠H.next:=G.ne N.2.1
    have ap6:d≠H.next+1:=by have:=G.lt N.2.1;omega
    have k1:kW g2 d tt c (h.unlock c p).1 H.next=some (p.av.map Cell.av):=by unfold kW;rw [bH hqt.symm,bH hqd.symm];exact hp1
    have k2:kW g2 d tt c (h.unlock c p).1 (H.next+1)=some (zP9.map Cell.av):=by unfold kW;rw [bH amr.symm,bH ap6.symm];exact hp2
    have NK:=N2.ahO (h.unlock c p).1;have hbK:K1.base<=b:=by rw [a3.base];simp only [H2,H1,jC];exact hb
    have fin:∀{K2:ah} {y:List Cell},Good b K2 (upd (kW g2 d tt c (h.unlock c p).1) (H.next+1) y)->Good b K2 (kW g d tt c (h.unlock c p).1):=λGk=> Gk.sub (by
     refine((Qi S2 _).more ?_ _);unfold kW;rw [bH amr.symm,bH ap6.symm];exact G.isNone (za3 _))
    have kk:¬((2:Int)=1):=by decide
    simp only [H2,H1] at a1;by_cases hz:(h.unlock c p).2=0
    ·have hp:h.handle c me p=((h.unlock c p).1,⟨8,me,p.src,p.id,p.aj,0,0,false,[]⟩,true,0):=by
      simp only [Home.handle];rw [if_neg h1,if_neg h2,if_neg hk0,if_pos hz]
     rw [hp];rw [hz] at a1;have q1:=a2.load k1 (i:=1) (x:=I p.src) rfl;have q3:=a2.load k1 (i:=3) (x:=I p.id) rfl;have q4:=a2.load k1 (i:=4) (x:=I p.aj) rfl;have q10:=a2.load NK.1 (i:=10) (x:=I me) rfl;have hd0:dat ([]:List Int)=zN:=by simp [dat,gI]
     obtain⟨K2,y1,y2,y3,y4⟩:=zst a2 hbK k2 (y:=(Pkt.mk 8 me p.src p.id p.aj 0 0 false []).av) (bU _) (aS _);refine⟨K2,?_,fin y3,(st2.trans a3).trans y4⟩;have eb:bd 112 [(0,I 8),(1,I me),(2,I p.src),(3,I p.id),(4,I p.aj)]=some (.agg (Pkt.mk 8 me p.src p.id p.aj 0 0 false []).av):=by
      simp only [xq_,qA,kE,gX,F5,Pkt.av,hd0];rfl
     simp only [Nat.reduceLT,Nat.reduceAdd,xq_,tq,aG (aS p),pa,ck,p2,l10,hds,p1,l2,hsr,zae,zam,p0,hk,kk,la,p4,ho,hh,l3,hl2,a1,q10,q1,q3,q4,eb,y1,y2,Vt]
    ·have hp:h.handle c me p=((h.unlock c p).1,.zero,false,(h.unlock c p).2):=by
      simp only [Home.handle];rw [if_neg h1,if_neg h2,if_neg hk0,if_neg hz]
     rw [hp];obtain⟨K2,y1,y2,y3,y4⟩:=zst a2 hbK k2 (y:=zP9) rfl rfl;refine⟨K2,?_,fin y3,(st2.trans a3).trans y4⟩;simp only [Nat.reduceLT,Nat.reduceAdd,xq_,tq,aG (aS p),pa,ck,p2,l10,hds,p1,l2,hsr,zae,zam,p0,hk,kk,la,p4,ho,hh,l3,hl2,a1,hz,ez,y1,y2,Vt,fH]
end
theorem aay(l:List Int):(l.mergeSort λx y=> decide (x<=y))=srt [] l:=by
 have tr:∀a b c:Int,decide (a<=b)=true->decide (b<=c)=true->decide (a<=c)=true:=λa b c h1 h2=> by simp only [decide_eq_true_eq] at*;omega
 have to:∀a b:Int,(decide (a<=b) || decide (b<=a))=true:=λa b=> by simp only [zbe,decide_eq_true_eq];omega
 exact(ajD (List.mergeSort_perm l _).symm ((List.pairwise_mergeSort tr to l).imp λh=> of_decide_eq_true h)).symm
theorem adk(l:List Int):YP l=dat (srt [] l):=by
 unfold YP;split
 ·rename_i h;subst h;simp [dat,gI,srt,ajy]
 ·rename_i h;have hp:=(uK l [] List.Pairwise.nil).1;have hl:(srt [] l).length=l.length:=hp.length_eq;have hne:srt [] l≠[]:=λe=> h (by rw [e] at hl;exact zar hl.symm);rw [yE hne,aay,hl]
section
variable {b:Nat}{H:ah}{g:bD}{q d tt:Nat}{c:Cfg}{me:Int}{h:Home}
structure TOk(t:Turns):Prop where
 nd:(t.wait.map (·.1)).Nodup
 key:∀e∈t.wait,0<=e.1/\e.1 < 1000
 len:t.wait.length < 1000
 ws:∀aj,(t.ws aj).length < 1000000
theorem JW(G:Good b H g){t:Turns}(h:g q=some (iP t))(T:TOk t):cl 123 [.ref q 0 0] H=some (dat (t.ready (srt [] (t.wait.map (·.1)))),H):=by
 obtain⟨r,aes,f1,f2,f3,f4⟩:=G.guard.ahE h (i:=1) rfl;have f4:aes.map (·.1)=t.wait.map (·.1):=by rw [f4];simp
 let H1:=H.guard.new (.blk 0 201 [.mp r]);have k1:cl 164 [.mp r] H.guard=some (.fn (.func 186) [] [.ref H.next 0 0],H1):=by
  refine bI rfl rfl (alp _ _ _ ?_);have eb:jD 201 (.mp r) H.guard=some (.ref H.next 0 0,H1):=rfl;simp only [xq_,afv,eb]
 have k2:cl 163 [.fn (.func 186) [] [.ref H.next 0 0]] H1=some (dat (srt [] (t.wait.map (·.1))),H1):=by
  refine FQ (p:=BM DC JB) rfl ?_;have g1:H1.get H.next=.blk 0 201 [.mp r]:=bC rfl
  have g2:H1.get r=.map .i64 aes:=by rw [<-f3];exact eG f2
  have hc:(True/\201 < gQ/\186≠0/\186∈DC/\(aes.map (·.1)).Nodup/\(aes.all λe=> (Lit.int .i64 e.1).wf)=true/\aes.length<=1000000):=by
   refine⟨trivial,by unfold gQ;decide,by decide,by simp [DC],by rw [f4];exact T.nd,?_,?_⟩
   ·rw [zaZ];intro e he;have:e.1∈t.wait.map (·.1):=by rw [<-f4];exact zaG.2 ⟨e,he,rfl⟩
    obtain⟨x,hx,hxe⟩:=zaG.1 this;have:=T.key x hx;have m1:IntKind.min .i64=-9223372036854775808:=rfl;have m2:IntKind.max .i64=9223372036854775807:=rfl;simp only [Lit.wf,m1,m2,zah,decide_eq_true_eq];rw [<-hxe];omega
   ·have:=congrArg List.length f4;simp only [zaB] at this;have:=T.len;omega
  simp only [BM,g1,g2];rw [if_pos hc,f4,adk]
 have hsp:=uK (t.wait.map (·.1)) [] List.Pairwise.nil;obtain⟨K,hK0⟩:∃K,K=srt [] (t.wait.map (·.1)):=⟨_,rfl⟩
 rw [<-hK0] at k2 hsp ⊢;have hK:K.length < 1000:=by have:=hsp.1.length_eq;simp only [zaK,zaB] at this;have:=T.len;omega
 have hs:∀H',aN H' (dat K) 1 K.length (K.map I):=λH'=> nN H' K;let p:Int->Bool:=λaj=> !t.owned aj && !(t.ws aj).isEmpty
 let F:Nat->List Int:=λj=> (K.take j).filter p
 have key:∀k j,j+k=K.length->∀(Hi:ah) (o:AV),Own H.next Hi o 1 ((F j).map I)->(F j=[]->o=zN)->Step H.next H.guard Hi->
   ∃y Hz,Et cl [.ref q 0 0,o,dat K,I K.length,I j] Hi=some (y,Hz)/\Own H.next Hz y 1 ((t.ready K).map I)/\(t.ready K=[]->y=zN):=by
  intro k
  induction k with
  | zero=>
   intro j hj Hi o O z s;have h1:¬(j:Int) < K.length:=by omega
   have:F j=t.ready K:=by
    simp only [F,Turns.ready,p];rw [zaA (by omega)]
   rw [this] at O z;refine⟨o,Hi,?_,O,z⟩;rw [UQ];simp only [xq_,h1]
  | succ k ih=>
   intro j hj Hi o O z s;have h1:(j:Int) < K.length:=by omega
   have h6:(j:Int)+1=((j+1:Nat):Int):=by omega
   have h7:=wrap_i64 (a:=((j+1:Nat):Int)) (by omega) (by omega);have sb:Hi.base=H.next:=s.base
   have sn:H.next<=Hi.next:=s.next
   obtain⟨e,he⟩:∃e,K[j]?=some e:=⟨_,zab (by omega)⟩
   have s1:=(hs Hi).ix (k:=.i64) (i:=(j:Int)) (by omega) h1;rw [zaq] at s1;have s2:=(hs Hi).ld (i:=j) (by omega);rw [zaM,he] at s2;simp only [zak] at s2;have Gi:Good b Hi g:=G.guard.ext s.next s.low
   have o1:=xK Gi h e;have w1:=wQ Gi h e;have hFs:F (j+1)=F j++if p e=true then [e] else []:=by
    simp only [F,zdD,he,Option.toList_some,zb3]
    congr 1
    cases hp:p e <;> simp [hp]
   have hm:(F j).length<=j:=zax (zco _ _) (by rw [zau];omega);rw [UQ];cases hp:p e with
   | true=>
    rw [hp,if_pos rfl] at hFs;have ho:t.owned e=false:=by simp only [p,zah,zaY] at hp;exact hp.1
    have hw:(0:Int) < (t.ws e).length:=by
     simp only [p,zah,zaY] at hp;cases hz:t.ws e with
     | nil=> rw [hz] at hp;simp at hp
     | cons a l=> simp only [zal];omega
    obtain⟨o',H2,t1,t2,t3⟩:=(O.new (.blk 0 3 [I e])).step (n:=(F j).length) (k:=1) (e:=3) (by_:=8) (y:=.sl Hi.next 0 0 1 1 1 true) (new:=[I e]) (by simp only [fE];omega) (by simp only [jC];omega) (by decide) (by simp) (nO rfl) rfl (by unfold most;omega) (by unfold most;omega);obtain⟨y,Hz,r1,r2⟩:=ih (j+1) (by omega) H2 o' (by rw [hFs,zbK];exact t2) (λhz=> by rw [hFs] at hz;simp at hz) ((s.trans (Step.new _ sn)).trans t3);refine⟨y,Hz,?_,r2⟩;rw [ho] at o1;have eb:∀H,bs 22 1 [(0,I e)] H=some (.sl H.next 0 0 1 1 1 true,H.new (.blk 0 3 [I e])):=λH=> (FZ (by decide)).trans (kV rfl rfl rfl);simp only [xq_,h1,s1,s2,o1,w1,hw,zam,eb,t1,Ak,dW,h6,h7];exact r1
   | false=>
    rw [hp,if_neg (by simp),za8] at hFs;obtain⟨y,Hz,r1,r2⟩:=ih (j+1) (by omega) Hi o (by rw [hFs];exact O) (by rw [hFs];exact z) s;refine⟨y,Hz,?_,r2⟩;cases ho:t.owned e with
    | true=>
     rw [ho] at o1;simp only [xq_,h1,s1,s2,o1,zae,Ak,dW,h6,h7];exact r1
    | false=>
     rw [ho] at o1;have hw:¬(0:Int) < (t.ws e).length:=by
      simp only [p,ho,zam,zbn,Bool.not_eq_false'] at hp;rw [List.isEmpty_iff] at hp;rw [hp];decide
     simp only [xq_,h1,s1,s2,o1,w1,hw,zam,Ak,dW,h6,h7];exact r1
 obtain⟨y,Hz,r1,r2,r3⟩:=key K.length 0 (by omega) H1 zN (.inl ⟨rfl,rfl⟩) (λ_=> rfl) (Step.new _ (zac _));refine ji rfl rfl (akL _ _ _ (r:=(y,Hz)) ?_) ?_
 ·have e2:=(hs H1).lnS;simp only [H1] at k1 k2 e2 r1;simp only [xq_,ae4,f1,k1,k2,e2];exact r1
 ·by_cases hz:t.ready K=[]
  ·rw [r3 hz,hz];simp only [dat,gI];exact jq
  ·rw [yE hz];exact JL r2 (by decide) (by simp) (λy hy=> xH (d:=7) _ y hy _ _) (λe=> hz (zar e))
end
def Off(S:Nat->Prop)(g g':bD):Prop:=∀q,¬S q->g' q=g q
theorem Off.refl(S:Nat->Prop)(g:bD):Off S g g:=λ_ _=> rfl
theorem Off.trans {S:Nat->Prop}{g g' g'':bD}(h:Off S g g')(h':Off S g' g''):Off S g g'':=λq hq=> (h' q hq).trans (h q hq)
theorem Off.upd {S:Nat->Prop}{g:bD}{q:Nat}{cs:List Cell}(h:S q):Off S g (upd g q cs):=λx hx=> by
 rw [bH];intro e;subst e;exact hx h
theorem Off.mono {S T:Nat->Prop}{g g':bD}(h:Off S g g')(hs:∀q,S q->T q):Off T g g':=λq hq=> h q λh'=> hq (hs q h')
def NG(P:Nat->Nat->Nat)(n:Nat)(q:Nat):Prop:=∃i s,i < n/\s < 4/\q=P i s
def QO(p:Port):Nat->List Pkt
 | 0=> p.rq
 | 1=> p.rin
 | 2=> p.an
 | _=> p.ain
def NH(c:Cfg):Nat->Int
 | 0=> c.out
 | 1=> c.inn
 | 2=> c.out
 | _=> 1
def oIx(req:Bool):Nat:=if req then 0 else 2
def iIx(req:Bool):Nat:=if req then 1 else 3
theorem gK {g:bD}{a:Nat->Nat}{c:Cfg}{p:Port}(h:vK g a c p):∀{s:Nat},s < 4->g (a s)=some (nM (QO p s) (NH c s)):=λ{s} hs=> by
 obtain⟨h0,h1,h2,h3⟩:=h
 match s,hs with
 | 0,_=> exact h0
 | 1,_=> exact h1
 | 2,_=> exact h2
 | 3,_=> exact h3
theorem Az {g:bD}{a:Nat->Nat}{c:Cfg}{p:Port}(h:∀s,s < 4->g (a s)=some (nM (QO p s) (NH c s))):vK g a c p:=
 ⟨h 0 (by decide),h 1 (by decide),h 2 (by decide),h 3 (by decide)⟩
theorem AA(p:Port)(req:Bool):QO p (oIx req)=p.sort req:=by cases req <;> rfl
theorem HY(p:Port)(req:Bool):QO p (iIx req)=p.pz req:=by cases req <;> rfl
theorem rO(c:Cfg)(req:Bool):NH c (oIx req)=c.out:=by cases req <;> rfl
theorem tN(req:Bool):oIx req < 4:=by cases req <;> decide
theorem rP(req:Bool):iIx req < 4:=by cases req <;> decide
theorem y8(p:Port)(req:Bool)(l:List Pkt)(s:Nat)(hs:s < 4):QO (p.jE req l) s=if s=oIx req then l else QO p s:=by
 match s,hs with
 | 0,_=> cases req <;> rfl
 | 1,_=> cases req <;> rfl
 | 2,_=> cases req <;> rfl
 | 3,_=> cases req <;> rfl
theorem CS(p:Port)(req:Bool)(l:List Pkt)(s:Nat)(hs:s < 4):QO (p.kL req l) s=if s=iIx req then l else QO p s:=by
 match s,hs with
 | 0,_=> cases req <;> rfl
 | 1,_=> cases req <;> rfl
 | 2,_=> cases req <;> rfl
 | 3,_=> cases req <;> rfl
section
variable {b:Nat}{H:ah}{g:bD}{f:Nat}{P:Nat->Nat->Nat}{c:Cfg}{fab:Fab}
theorem ig.sub {g':bD}(F:ig g f P c fab)(hs:ru g g'):ig g' f P c fab:=
 ⟨hs _ _ F.1,λi p hp=> by obtain⟨a,b,c,d⟩:=F.2.1 i p hp;exact⟨hs _ _ a,hs _ _ b,hs _ _ c,hs _ _ d⟩,F.2.2⟩
theorem ig.fne(F:ig g f P c fab){i s:Nat}(hi:i < fab.l.length)(hs:s < 4):f≠P i s:=λe=> by
 have h1:=F.1;have h2:=gK (F.port hi) hs;rw [<-e,h1] at h2;have:=congrArg List.length (za2 h2);simp [acR,nM] at this
theorem ig.fill(F:ig g f P c fab)(J:PO P fab.l.length){i s:Nat}(hi:i < fab.l.length)(hs:s < 4){p':Port}{l:List Pkt}(hp:∀t,t < 4->QO p' t=if t=s then l else QO (fab.port i) t):
  ig (upd g (P i s) (nM l (NH c s))) f P c (fab.put i p'):=by
 have hlen:(fab.put i p').l.length=fab.l.length:=by simp [Fab.put]
 refine⟨by rw [hlen,bH (F.fne hi hs)];exact F.1,λj p hj=> ?_,F.2.2⟩;simp only [Fab.put,zaq] at hj;have hjl:j < fab.l.length:=by have:=(zai.1 hj).1;simpa using this
 by_cases hij:i=j
 ·subst hij;rw [za7 hi] at hj;cases hj;refine Az λt ht=> ?_;rw [hp t ht];by_cases hts:t=s
  ·subst hts;rw [if_pos rfl,aV]
  ·rw [if_neg hts,bH (λe=> hts (J _ _ _ _ hi hi ht hs e).2)];exact gK (F.port hi) ht
 ·rw [zbc hij] at hj;refine Az λt ht=> ?_;rw [bH (λe=> hij (J _ _ _ _ hjl hi ht hs e).1.symm)];have:=gK (F.2.1 j p hj) ht;exact this
theorem AB {i:Int}(hi:fab.is i=true):∃n:Nat,i=n/\n < fab.l.length:=by
 simp only [Fab.is,zah,decide_eq_true_eq] at hi;exact⟨i.toNat,by omega,by omega⟩
def adl(a:Nat->Nat)(req:Bool):List AV:=[.ref (a (oIx req)) 0 0,.ref (a (iIx req)) 0 0]
theorem ES(H:ah)(hb:H.base<=H.next)(a:Nat->Nat)(req:Bool):∃H',cl 49 [.agg (oH a),B req] H=some (.agg (adl a req),H')/\Made H H' vP:=by
 refine jY rfl rfl (aol _ _ _ _) ?_;have ap:(oH a).all AV.aQ=true:=rfl;cases req with
 | true=>
  refine⟨(H.new (.blk 0 101 (oH a))).new (.blk 0 99 (adl a true)),?_,((Made.refl hb).new _).new _⟩;simp only [Nat.reduceLT,Nat.reduceAdd,aW,xq_,hq_,ag2,oH,adl,oIx,iIx,aG,hb]
 | false=>
  refine⟨(H.new (.blk 0 101 (oH a))).new (.blk 0 99 (adl a false)),?_,((Made.refl hb).new _).new _⟩;simp only [Nat.reduceLT,Nat.reduceAdd,aW,xq_,hq_,ag2,oH,adl,oIx,iIx,aG,hb]
theorem AL(G:Good b H g)(F:ig g f P c fab){i:Nat}(hi:i < fab.l.length):∃x r gg o,ld (.ref f 0 0) H=some (x,H)/\ix 4 x (I i) H=some (.ref r gg o,H)/\lda 4 (.ref r gg o) H=some (.agg (oH (P i)),H):=by
 obtain⟨x,hx,cu⟩:=G.seq F.1 (i:=0) rfl;obtain⟨r,gg,o,a1,_,a3⟩:=cu.elemAt (by decide) (pX P _) hi;have hr:(List.range fab.l.length)[i]?=some i:=zbZ hi;have:=uH (enc:=λi=> oH (P i)) (m:=4) (λ_=> rfl) (List.range fab.l.length) i i hr;rw [this] at a3;exact⟨x,r,gg,o,hx,a1 .i64,a3⟩
structure FOk(c:Cfg)(fab:Fab):Prop where
 ok:c.ok=true
 len:fab.l.length < 1000
 box:∀p∈fab.l,∀s,s < 4->((QO p s).length:Int)<=NH c s
 dat:∀p∈fab.l,∀s,s < 4->∀q∈QO p s,q.data.length < 1000000000
theorem JX {c:Cfg}(h:c.ok=true)(s:Nat):0<=NH c s/\NH c s < 1000:=by
 have B:=EM h;have:=B.out;have:=B.inn;unfold NH;split <;> omega
theorem FOk.small {c:Cfg}{fab:Fab}(K:FOk c fab){p:Port}(hp:p∈fab.l){s:Nat}(hs:s < 4):(QO p s).length < 1000:=by
 have:=K.box p hp s hs;have:=(JX K.ok s).2;omega
theorem Fab.uS {fab:Fab}{i:Nat}(hi:i < fab.l.length):fab.port i∈fab.l:=by
 unfold Fab.port;rw [zaq,zas,zab hi];exact List.getElem_mem hi
theorem ahP(G:Good b H g)(hb:H.base<=b)(F:ig g f P c fab)(K:FOk c fab)(i:Int)(req:Bool):∃H',cl 79 [.ref f 0 0,I i,B req] H=some (I (fab.roomOf i req),H')/\Good b H' g/\Step b H H':=by
 refine jY rfl rfl (aoG _ _ _ _ _) ?_;have e1:=EN G F K.len i;cases hi:fab.is i with
 | false=>
  rw [hi] at e1;refine⟨H,?_,G,Step.refl _ _⟩;have:fab.roomOf i req=0:=by simp [Fab.roomOf,hi]
  simp only [xq_,aha,e1,zam,this]
 | true=>
  rw [hi] at e1;obtain⟨n,rfl,hn⟩:=AB hi;obtain⟨x,r,gg,o,h1,h2,h3⟩:=AL G F hn;obtain⟨H1,s1,s2⟩:=ES H (zax hb G.1) (P n) req;have G1:Good b H1 g:=G.ext s2.next s2.same
  have hbx:=gK (F.port hn) (tN req);have e2:=U6 G1 hbx (JX K.ok _).1 (JX K.ok _).2 (K.small (Fab.uS hn) (tN req));rw [AA,rO,<-F.2.2.1] at e2;refine⟨H1,?_,G1,⟨s2.base,s2.next,λr hr=> s2.same r (zay hr G.1)⟩⟩;have hro:fab.roomOf n req=fab.out - ((fab.port n).sort req).length:=by unfold Fab.roomOf;rw [if_pos hi]
  have l0:(adl (P n) req)[0]?=some (.ref (P n (oIx req)) 0 0):=rfl;simp only [xq_,aha,e1,zae,h1,h2,h3,s1,l0,e2,hro]
theorem ahQ(G:Good b H g)(hb:H.base<=b)(F:ig g f P c fab)(J:PO P fab.l.length)(K:FOk c fab)(p:Pkt)(hl:p.data.length < 1000000000):
  ∃H' g',cl 81 [.ref f 0 0,.agg p.av] H=some (I (fab.send p).2,H')/\Good b H' g'/\ig g' f P c (fab.send p).1/\Off (NG P fab.l.length) g g'/\Step b H H':=by
 have hb0:H.base<=H.next:=zax hb G.1
 let H1:=H.new (.blk 0 112 p.av);have G1:Good b H1 g:=G.new _;have ck:=Aw H1 p;have e1:=EN G1 F K.len p.src;have e2:=EN G1 F K.len p.dst;by_cases hbad:(!p.ok || !fab.is p.src || !fab.is p.dst)=true
 ·have hp:fab.send p=(fab,1):=by simp only [Fab.send];rw [if_pos hbad]
  rw [hp];refine⟨H1,g,bI rfl rfl (akj _ _ _ _ ?_),G1,F,Off.refl _ _,Step.new _ G.1⟩;simp only [H1] at ck e1 e2 ⊢;have f1:p.av[1]?=some (I p.src):=rfl;have f2:p.av[2]?=some (I p.dst):=rfl;cases hok:p.ok with
  | false=>
   rw [hok] at ck;simp only [Nat.reduceLT,Int.reduceEq,xq_,hq_,Zf,aG (aS p),ck,zam]
  | true=>
   rw [hok] at ck hbad;cases hs:fab.is p.src with
   | false=>
    rw [hs] at e1;simp only [Nat.reduceLT,xq_,hq_,Zf,aG (aS p),ck,zae,f1,e1,zam]
   | true=>
    rw [hs] at e1 hbad;have hd:fab.is p.dst=false:=by simpa using hbad
    rw [hd] at e2;simp only [Nat.reduceLT,xq_,hq_,Zf,aG (aS p),ck,zae,f1,f2,e1,e2,zam]
 ·have hcond:p.ok=true/\fab.is p.src=true/\fab.is p.dst=true:=by
   cases h1:p.ok <;> cases h2:fab.is p.src <;> cases h3:fab.is p.dst <;> simp_all
  obtain⟨hok,hs,hd⟩:=hcond;rw [hok] at ck;rw [hs] at e1;rw [hd] at e2;obtain⟨n,hsn,hn⟩:=AB hs;obtain⟨x,r,gg,o,h1,h2,h3⟩:=AL G1 F hn;let req:=oW p.aO;have rq:=JQ H1.guard p.aO;obtain⟨K1',s1,s2⟩:=ES H1.guard (zac _) (P n) req;obtain⟨K1,s1,s2⟩:=drawn s1 s2;have G2:Good b K1 g:=G1.ext s2.next s2.same
  have hbx:=gK (F.port hn) (tN req);have hbK:K1.base<=b:=by rw [s2.base];exact hb
  obtain⟨H',q1,q2,q3⟩:=ahi G2 hbK hbx (JX K.ok _).1 (JX K.ok _).2 (K.small (Fab.uS hn) (tN req)) p hl;have g1:K1.get H.next=.blk 0 112 p.av:=by rw [s2.same _ (by simp only [H1,fE];omega)];exact bC rfl
  have l9:lda 9 (.ref H.next 0 0) K1=some (.agg p.av,K1):=by
   rw [gZ (off:=0) (n:=9) g1 (by rw [bU];exact zac _),zaP,OU]
  rw [AA,rO] at q1;have hout:fab.out=c.out:=F.2.2.1;have hle:=K.box _ (Fab.uS hn) _ (tN req);rw [AA,rO] at hle;have f0:p.av[0]?=some (I p.aO):=rfl;have f1:p.av[1]?=some (I p.src):=rfl;have f2:p.av[2]?=some (I p.dst):=rfl;have l0:(adl (P n) req)[0]?=some (.ref (P n (oIx req)) 0 0):=rfl;have run:∀v,cl 128 [.ref (P n (oIx req)) 0 0,.agg p.av] K1=some (v,H')->cl 81 [.ref f 0 0,.agg p.av] H=some (v,H'):=λv q1=> by
   refine bI rfl rfl (akj _ _ _ _ ?_);rw [hsn] at f1 e1;simp only [H1,req] at ck e1 e2 rq h1 h2 h3 s1 l0 q1;simp only [Nat.reduceLT,xq_,hq_,Zf,aG (aS p),ck,zae,f0,f1,f2,e1,e2,h1,h2,h3,rq,s1,l0,l9,q1]
  have st0:Step b H K1:=(Step.new _ G.1).trans ⟨s2.base,s2.next,λr hr=> s2.same r (zay hr G1.1)⟩;have hset:Off (NG P fab.l.length) g (upd g (P n (oIx req)) (nM (if NH c (oIx req)=((QO (fab.port n) (oIx req)).length:Int) then QO (fab.port n) (oIx req) else QO (fab.port n) (oIx req)++[p]) (NH c (oIx req)))):=Off.upd ⟨n,oIx req,hn,tN req,rfl⟩;rw [AA,rO] at q2 hset;by_cases hfull:c.out=(((fab.port n).sort req).length:Int)
  ·have hp:fab.send p=(fab,5):=by
    simp only [Fab.send];rw [if_neg hbad,hsn,hout,if_pos (Int.le_of_eq hfull)]
   rw [if_pos hfull] at q1 q2 hset;rw [fJ (by rw [gK (F.port hn) (tN req),AA,rO])] at q2;rw [hp];exact⟨H',g,run _ q1,q2,F,Off.refl _ _,st0.trans q3⟩
  ·have hp:fab.send p=(fab.put n ((fab.port n).jE req ((fab.port n).sort req++[p])),0):=by
    simp only [Fab.send];rw [if_neg hbad,hsn,hout,if_neg (λh=> hfull (Int.le_antisymm h hle))]
   rw [if_neg hfull] at q1 q2 hset;rw [hp];refine⟨H',_,run _ q1,q2,?_,hset,st0.trans q3⟩;have:=F.fill J hn (tN req) (p':=(fab.port n).jE req ((fab.port n).sort req++[p])) (l:=(fab.port n).sort req++[p]) (y8 _ _ _);rw [rO] at this;exact this
end
section
variable {b:Nat}{H:ah}{g:bD}{f:Nat}{P:Nat->Nat->Nat}{c:Cfg}{fab:Fab}
theorem ig.aq3(G:Good b H g)(F:ig g f P c fab){q:Nat}(h:NG P fab.l.length q):q < H.next:=by
 obtain⟨i,s,hi,hs,rfl⟩:=h;exact G.lt (gK (F.port hi) hs)
theorem ig.S9(G:Good b H g)(F:ig g f P c fab):¬NG P fab.l.length H.next:=λh=> Nat.lt_irrefl _ (F.aq3 G h)
theorem ahR {K:ah}{gk:bD}{r:Nat}{ys:List AV}(Gk:Good b K gk)(hk:K.base<=b)(hz:gk r=some (ys.map Cell.av))(hy:ys.length=9){y:List AV}(h9:y.length=9)(ha:y.all AV.aQ=true):
  ∃K',st 9 (.ref r 0 0) (.agg y) K=some (aZ,K')/\lda 9 (.ref r 0 0) K'=some (.agg y,K')/\Good b K' (upd gk r (y.map Cell.av))/\Step b K K':=by
 obtain⟨K',t1,t2,t3,t4⟩:=Gk.stores hk hz (i:=0) (n:=9) (vs:=y) (by simp [hy]) h9 ha;have e:mF (ys.map Cell.av) 0 y=y.map Cell.av:=by
  unfold mF;rw [zaQ (by simp [h9,hy])];simp
 rw [e] at t2;exact⟨K',t1,t2.loads aV (i:=0) (n:=9) (xs:=y) (by rw [zaP,zaA (by simp [h9])]) h9 (by decide),t2,t3⟩
theorem aaz(G:Good b H g)(hb:H.base<=b)(F:ig g f P c fab)(J:PO P fab.l.length)(K:FOk c fab)(i:Int)(req:Bool):
  ∃H' g',cl 113 [.ref f 0 0,I i,B req] H=some (iD (fab.take i req).2,H')/\Good b H' g'/\ig g' f P c (fab.take i req).1/\Off (NG P fab.l.length) g g'/\Step b H H':=by
 have hb0:H.base<=H.next:=zax hb G.1
 have G1:=G.newObj (ty:=112) (xs:=zP9) rfl;have S1:ru g (upd g H.next (zP9.map Cell.av)):=(ru.refl g).more (G.isNone (zac _)) _;have F1:=F.sub S1;have e1:=EN G1 F1 K.len i;have ez:bd 112 []=some (.agg zP9):=by simp only [xq_,qA,kE,eu]
 cases hi:fab.is i with
 | false=>
  rw [hi] at e1;have hp:fab.take i req=(fab,none):=by simp [Fab.take,hi]
  rw [hp];obtain⟨K',t1,t2,t3,t4⟩:=ahR G1 (by rw [jC];exact hb) aV rfl (y:=zP9) rfl rfl;refine⟨K',g,bI rfl rfl (ae0 _ _ _ _ _ ?_),t3.sub (by rw [oq];exact S1),F,Off.refl _ _,(Step.new _ G.1).trans t4⟩;simp only [xq_,Zj,e1,zam,ez,t1,t2,iD,za1,zaI,fH]
 | true=>
  rw [hi] at e1;obtain⟨n,rfl,hn⟩:=AB hi;obtain⟨x,r,gg,o,h1,h2,h3⟩:=AL G1 F1 hn;obtain⟨K1,s1,s2⟩:=ES (H.new (.blk 0 112 zP9)) (by rw [jC,fE];omega) (P n) req;have G2:Good b K1 _:=G1.ext s2.next s2.same
  have hbx:=gK (F1.port hn) (rP req);have hbK:K1.base<=b:=by rw [s2.base,jC];exact hb
  have st1:Step b H K1:=(Step.new _ G.1).trans ⟨s2.base,s2.next,λr hr=> s2.same r (zay hr G1.1)⟩;obtain⟨K2,q1,q2,q3⟩:=ZJ G2 hbK hbx (K.small (Fab.uS hn) (rP req)) (K.dat _ (Fab.uS hn) _ (rP req));have hpn:P n (iIx req)≠H.next:=λe=> F.S9 G ⟨n,iIx req,hn,rP req,e.symm⟩
  rw [HY] at q1 q2;obtain⟨K3,t1,t2,t3,t4⟩:=ahR q2 (by rw [q3.base];exact hbK) (r:=H.next) (ys:=zP9) (by rw [bH hpn.symm,aV]) rfl (y:=(((fab.port n).pz req).head?.getD .zero).av) (bU _) (aS _);have l1:(adl (P n) req)[1]?=some (.ref (P n (iIx req)) 0 0):=rfl;have run:cl 113 [.ref f 0 0,I n,B req] H=some (iD ((fab.port n).pz req).head?,K3):=by
   refine bI rfl rfl (ae0 _ _ _ _ _ ?_);simp only [iD] at q1;simp only [xq_,Zj,e1,zae,h1,h2,h3,s1,l1,q1,t1,t2,iD]
  have hsub:ru (upd g (P n (iIx req)) (nM ((fab.port n).pz req).tail (NH c (iIx req)))) (upd (upd (upd g H.next (zP9.map Cell.av)) (P n (iIx req)) (nM ((fab.port n).pz req).tail (NH c (iIx req)))) H.next ((((fab.port n).pz req).head?.getD .zero).av.map Cell.av)):=
   (S1.both _ _).more (zQ (G.isNone (zac _)) hpn.symm) _
  have G3:=t3.sub hsub;cases hz:(fab.port n).pz req with
  | nil=>
   have hp:fab.take n req=(fab,none):=by simp [Fab.take,hi,hz]
   rw [hz] at run G3;rw [hp];rw [List.tail_nil,fJ (by rw [gK (F.port hn) (rP req),HY,hz])] at G3;exact⟨K3,g,run,G3,F,Off.refl _ _,(st1.trans q3).trans t4⟩
  | cons p l=>
   have hp:fab.take n req=(fab.put n ((fab.port n).kL req l),some p):=by simp [Fab.take,hi,hz]
   rw [hz] at run G3;rw [hp];refine⟨K3,_,run,G3,?_,Off.upd ⟨n,iIx req,hn,rP req,rfl⟩,(st1.trans q3).trans t4⟩;exact F.fill J hn (rP req) (p':=(fab.port n).kL req l) (l:=l) (CS _ _ _)
theorem CU(G:Good b H g)(hb:H.base<=b)(F:ig g f P c fab)(J:PO P fab.l.length)(K:FOk c fab)(i:Int):
  ∃H' g',cl 82 [.ref f 0 0,I i] H=some (iD (fab.take i true).2,H')/\Good b H' g'/\ig g' f P c (fab.take i true).1/\Off (NG P fab.l.length) g g'/\Step b H H':=by
 have G1:=G.newObj (ty:=112) (xs:=zP9) rfl;have S1:ru g (upd g H.next (zP9.map Cell.av)):=(ru.refl g).more (G.isNone (zac _)) _;have F1:=F.sub S1;obtain⟨K1,g',q1,q2,q3,q4,q5⟩:=aaz G1 (by rw [jC];exact hb) F1 J K i true;have hg':g' H.next=some (zP9.map Cell.av):=by rw [q4 _ (F.S9 G),aV]
 obtain⟨K2,t1,t2,t3,t4⟩:=ahR q2 (by rw [q5.base,jC];exact hb) hg' rfl (y:=((fab.take i true).2.getD .zero).av) (bU _) (aS _);let g2:bD:=λq=> if q=H.next then none else g' q
 have hn:g H.next=none:=G.isNone (zac _)
 have F2:ig g2 f P c (fab.take i true).1:=by
  have ne:∀q cs,g' q=some cs->q≠H.next->g2 q=some cs:=λq cs h1 h2=> by simp only [g2];rw [if_neg h2];exact h1
  have hlen:(fab.take i true).1.l.length=fab.l.length:=by
   unfold Fab.take;split
   ·split
    ·rfl
    ·simp [Fab.put]
   ·rfl
  have fn:f≠H.next:=G.ne F.1
  refine⟨ne _ _ q3.1 fn,λj p hj=> Az λs hs=> ne _ _ (gK (q3.2.1 j p hj) hs) λe=> ?_,q3.2.2⟩;have hjl:j < fab.l.length:=by rw [<-hlen];exact(zai.1 hj).1
  exact F.S9 G ⟨j,s,hjl,hs,e.symm⟩
 refine⟨K2,g2,bI rfl rfl (aoJ _ _ _ _ ?_),t3.sub λq cs h=> ?_,F2,λq hq=> ?_,((Step.new _ G.1).trans q5).trans t4⟩
 ·simp only [iD] at q1;simp only [xq_,akk,q1,t1,t2,iD]
 ·simp only [g2] at h;split at h
  ·cases h
  ·rename_i hne;rw [bH hne];exact h
 ·simp only [g2];split
  ·rename_i e;rw [e,hn]
  ·rename_i hne;rw [q4 q hq,bH hne]
theorem ML(G:Good b H g)(hb:H.base<=b)(F:ig g f P c fab)(J:PO P fab.l.length)(K:FOk c fab)(i:Int):
  ∃H' g',cl 72 [.ref f 0 0,I i] H=some (iD (fab.take i false).2,H')/\Good b H' g'/\ig g' f P c (fab.take i false).1/\Off (NG P fab.l.length) g g'/\Step b H H':=by
 have G1:=G.newObj (ty:=112) (xs:=zP9) rfl;have S1:ru g (upd g H.next (zP9.map Cell.av)):=(ru.refl g).more (G.isNone (zac _)) _;have F1:=F.sub S1;obtain⟨K1,g',q1,q2,q3,q4,q5⟩:=aaz G1 (by rw [jC];exact hb) F1 J K i false;have hg':g' H.next=some (zP9.map Cell.av):=by rw [q4 _ (F.S9 G),aV]
 obtain⟨K2,t1,t2,t3,t4⟩:=ahR q2 (by rw [q5.base,jC];exact hb) hg' rfl (y:=((fab.take i false).2.getD .zero).av) (bU _) (aS _);let g2:bD:=λq=> if q=H.next then none else g' q
 have hn:g H.next=none:=G.isNone (zac _)
 have F2:ig g2 f P c (fab.take i false).1:=by
  have ne:∀q cs,g' q=some cs->q≠H.next->g2 q=some cs:=λq cs h1 h2=> by simp only [g2];rw [if_neg h2];exact h1
  have hlen:(fab.take i false).1.l.length=fab.l.length:=by
   unfold Fab.take;split
   ·split
    ·rfl
    ·simp [Fab.put]
   ·rfl
  have fn:f≠H.next:=G.ne F.1
  refine⟨ne _ _ q3.1 fn,λj p hj=> Az λs hs=> ne _ _ (gK (q3.2.1 j p hj) hs) λe=> ?_,q3.2.2⟩;have hjl:j < fab.l.length:=by rw [<-hlen];exact(zai.1 hj).1
  exact F.S9 G ⟨j,s,hjl,hs,e.symm⟩
 refine⟨K2,g2,bI rfl rfl (aox _ _ _ _ ?_),t3.sub λq cs h=> ?_,F2,λq hq=> ?_,((Step.new _ G.1).trans q5).trans t4⟩
 ·simp only [iD] at q1;simp only [xq_,akf,q1,t1,t2,iD]
 ·simp only [g2] at h;split at h
  ·cases h
  ·rename_i hne;rw [bH hne];exact h
 ·simp only [g2];split
  ·rename_i e;rw [e,hn]
  ·rename_i hne;rw [q4 q hq,bH hne]
end
section
variable {b:Nat}{H:ah}{g:bD}{q:Nat}{l:List Pkt}{room:Int}
theorem WY(G:Good b H g)(hb:H.base<=b)(h:g q=some (nM l room))(h3:l.length < 1000)(hd:∀p∈l,p.data.length < 1000000000)(k:Nat)(hk:k < l.length):
  ∃v H',cl 53 [.ref q 0 0,I k] H=some (v,H')/\Good b H' (upd g q (nM (l.eraseIdx k) room))/\Step b H H':=by
 obtain⟨p,hp⟩:∃p,l[k]?=some p:=⟨_,zab hk⟩
 have hq:=G.lt h;have G1:=G.newObj (ty:=112) (xs:=zP9) rfl;have h1:upd g H.next (zP9.map Cell.av) q=some (nM l room):=by rw [bH (by omega)];exact h
 have e1:=ZK G1 h1 h3 hd k;rw [if_neg (by omega),zaq,hp] at e1;simp only [iD,zat,zaJ] at e1;have hb0:H.base<=H.next:=zax hb G.1
 have G2:=G1.newObj (ty:=112) (xs:=p.av) (aS _);have h2:upd (upd g H.next (zP9.map Cell.av)) (H.next+1) (p.av.map Cell.av) q=some (nM l room):=by rw [bH (by omega)];exact h1
 obtain⟨x,x',K1,K2,s1,s2,s3,s4,s5⟩:=U7 G2 (by rw [jC,jC];omega) h2 h3 hk;have G3:Good b K2 _:=s4;let gz:=upd (upd (upd g H.next (zP9.map Cell.av)) (H.next+1) (p.av.map Cell.av)) q (nM (l.eraseIdx k) room);have q2:gz (H.next+1)=some (p.av.map Cell.av):=by simp only [gz];rw [bH (by omega),aV]
 have q1:gz H.next=some (zP9.map Cell.av):=by simp only [gz];rw [bH (by omega),bH (by omega),aV]
 have l2:=G3.loads q2 (i:=0) (n:=9) (xs:=p.av) rfl rfl (by decide);obtain⟨K3,t1,t2,t3,t4⟩:=G3.stores (by rw [s5.base,jC,jC];exact hb) q1 (i:=0) (n:=9) (vs:=p.av) (by decide) rfl (aS _);have l3:=t2.loads aV (i:=0) (n:=9) (xs:=p.av) rfl rfl (by decide);have w1:=wrap_i64 (a:=(k:Int)+1) (by omega) (by omega);have n1:g H.next=none:=G.isNone (zac _)
 have n2:g (H.next+1)=none:=G.isNone (by omega);refine⟨.tup [.agg p.av,B true],K3,bI rfl rfl (aop _ _ _ _ ?_),t2.sub (((((ru.refl g).more n1 _).more n2 _).both q _).more (zQ n1 (by omega)) _),(((Step.new _ G.1).trans (Step.new _ (G.new _).1)).trans s5).trans t3⟩;simp only [Nat.reduceAdd,aW,xq_,hq_,aj1,e1,Sr,hb0,dW,w1,s1,s2,s3,l2,t1,l3]
end
theorem vM {β:Type}{r gg o:Nat}{H H':ah}{k:Option β}(h:H'.get r=H.get r):ck (bQ (.ref r gg o)) H H' k=k:=acZ λx hx=> by
 simp only [bQ,zaa] at hx;subst hx;exact h
section
variable {β:Type}{r gg o:Nat}{X X':ah}{a a' c c':fV}{k:Option β}
theorem ckN(h:r < X.next):ck (bQ (.ref r gg o)) (X.new a) (X.new a') k=k:=vM (by rw [eG h,eG h])
theorem ckM(h:r=X.next)(h':X'.next=X.next):ck (bQ (.ref r gg o)) ((X.new a).new c) ((X'.new a).new c') k=k:=vM (by rw [eG (H:=X'.new a) (by rw [fE,h'];omega),eG (H:=X.new a) (by rw [fE];omega),bC (h.trans h'.symm),bC h])
end
theorem ams {β:Type}{l:List Int}{H H':ah}{k:Option β}:ck (bQ (dat l)) H H' k=k:=acZ λx hx=> by
 by_cases h:l=[]
 ·subst h;simp [dat,gI,bQ] at hx
 ·rw [yE h] at hx;simp [bQ] at hx
theorem lG:bJ.zero.av=[zI,zI,zI,zI,zI,zI,zN,zI,zI]:=by simp [bJ.zero,bJ.av,dat,gI]
theorem aaA(p:bJ){d:Nat}:∀x∈p.av,Frz (d+2) x:=λx hx=> by
 simp only [bJ.av,zaj,zaw,or_false] at hx;rcases hx with rfl | rfl | rfl | rfl | rfl | rfl | rfl | rfl | rfl <;> first | exact iZ | exact uJ
theorem aaB(H:ah)(k:Int):cl 162 [I k] H=some (I (zS k),H):=by
 refine bI rfl rfl (alo _ _ _ ?_);unfold zS;by_cases h1:k=1
 ·simp only [Int.reduceEq,xq_,DI,h1]
 ·by_cases h2:k=2
  ·simp only [Int.reduceEq,xq_,DI,h2]
  ·by_cases h3:k=3
   ·simp only [Int.reduceEq,xq_,DI,h3]
   ·by_cases h4:k=4
    ·simp only [Int.reduceEq,xq_,DI,h4]
    ·by_cases h5:k=5
     ·simp only [Int.reduceEq,xq_,DI,h5]
     ·by_cases h6:k=6
      ·simp only [Int.reduceEq,xq_,DI,h6]
      ·simp only [xq_,DI,h1,h2,h3,h4,h5,h6]
theorem adn(H:ah)(aO aj id:Int):cl 134 [I aO,I aj,I id] H=some (.agg (bJ.begin aO aj id).av,H):=by
 refine dJ rfl rfl (ak0 _ _ _ _ _) ?_ (nG (aaA _));have hd0:dat ([]:List Int)=zN:=by simp [dat,gI]
 simp only [Int.reduceNeg,Nat.reduceAdd,Nat.reduceLeDiff,aW,xq_,hq_,afd,Wn,kE,gX,ai4,bJ.begin,bJ.av,hd0]
theorem Tc(H:ah)(d:bJ)(p:Pkt):cl 155 [.agg d.av,.agg p.av] H=some (B (d.fits p),H):=by
 refine dJ rfl rfl (alf _ _ _ _) ?_ iZ;have e1:=λH=> aaB H d.step;have e2:=λH=> Qd H (zS d.step);unfold bJ.fits;by_cases h1:BK (zS d.step)=0
 ·simp only [Nat.reduceLT,xq_,hq_,JD,aG,bJ.av,Pkt.av,e1,e2,h1,zae,zbC,not_true_eq_false]
 ·by_cases h2:p.aO=BK (zS d.step)
  ·by_cases h3:p.id=d.id
   ·by_cases h4:p.aj=d.aj
    ·simp only [Nat.reduceLT,xq_,hq_,JD,aG,bJ.av,Pkt.av,e1,e2,h1,h2,h3,h4,zam]
    ·simp only [Nat.reduceLT,xq_,hq_,JD,aG,bJ.av,Pkt.av,e1,e2,h1,h2,h3,h4,zam,zci]
   ·simp only [Nat.reduceLT,xq_,hq_,JD,aG,bJ.av,Pkt.av,e1,e2,h1,h2,h3,zam,zbC,zci]
  ·simp only [Nat.reduceLT,xq_,hq_,JD,aG,bJ.av,Pkt.av,e1,e2,h1,h2,zam,zbC,zci]
theorem amu(H:ah)(d:bJ)(bn home:Int)(hl:d.data.length < 1000000000):cl 122 [.agg d.av,I bn,I home] H=some (.agg (d.ask bn home).av,H):=by
 refine dJ rfl rfl (akK _ _ _ _ _) ?_ (nG (Vs _));have e1:=λH k=> aaB H k;have hd0:dat ([]:List Int)=zN:=by simp [dat,gI]
 have e5:=λH=> lD H d.data hl;have e6:=λH=> (nN H d.data).lnS;have ebd:∀k,bd 112 [(0,I k),(1,I bn),(2,I home),(3,I d.id),(4,I d.aj)]=some (.agg [I k,I bn,I home,I d.id,I d.aj,zI,zI,zB,zN]):=λk=> by
  simp only [xq_,qA,kE,gX,F5];rfl
 have ez:bd 112 []=some (.agg zP9):=by simp only [xq_,qA,kE,eu]
 unfold bJ.ask;by_cases h1:d.step=1
 ·simp only [Nat.reduceLT,Int.reduceEq,Nat.reduceAdd,Nat.reduceLeDiff,aW,xq_,hq_,DF,aG,bJ.av,e1,h1,ebd,zS,Pkt.av,hd0]
 ·by_cases h2:d.step=2
  ·simp only [Nat.reduceLT,Int.reduceEq,Nat.reduceAdd,Nat.reduceLeDiff,aW,xq_,hq_,DF,oO,aG,bJ.av,e1,h2,ebd,zS,Pkt.av,hd0]
  ·by_cases h3:d.step=3
   ·simp only [Nat.reduceLT,Int.reduceEq,Nat.reduceAdd,Nat.reduceLeDiff,aW,xq_,hq_,DF,oO,aG,bJ.av,e1,h3,ebd,zS,Pkt.av,hd0]
   ·by_cases h4:d.step=4
    ·simp only [Nat.reduceLT,Int.reduceEq,Nat.reduceAdd,Nat.reduceLeDiff,aW,xq_,hq_,DF,oO,aG,bJ.av,e1,h4,ebd,zS,Pkt.av,hd0,ckN]
    ·by_cases h5:d.step=5
     ·simp only [Nat.reduceLT,Int.reduceEq,Nat.reduceAdd,Nat.reduceLeDiff,aW,xq_,hq_,DF,oO,aG,bJ.av,e1,h5,ebd,zS,Pkt.av,hd0,ckN]
     ·by_cases h6:d.step=6
      ·have hn:decide (d.data≠[])=decide ((0:Int) < d.data.length):=by
        cases d.data with
        | nil=> rfl
        | cons a l=>
         have:(0:Int) < ((a::l).length:Int):=by simp only [zal];omega
         simp only [this,ne_eq,decide_true];rfl
       simp only [Nat.reduceLT,Int.reduceEq,Nat.reduceAdd,Nat.reduceLeDiff,aW,xq_,hq_,DF,oO,aG,bJ.av,e1,h6,ebd,zS,Pkt.av,e5,e6,hn,ckN,ams]
      ·simp only [Nat.reduceLT,Nat.reduceAdd,Nat.reduceLeDiff,aW,xq_,hq_,DF,aG,bJ.av,e1,h1,h2,h3,h4,h5,h6,ebd,ez,fH]
abbrev Lcl:=Nat->Option (List AV)
def iE(ls:Lcl)(r:Nat)(xs:List AV):Lcl:=λx=> if x=r then some xs else ls x
def noL:Lcl:=λ_=> none
def lay(g:bD)(ls:Lcl):bD:=λq=> match ls q with
 | some xs=> some (xs.map Cell.av)
 | none=> g q
structure Loc(b:Nat)(K:ah)(g:bD)(ls:Lcl):Prop where
 good:Good b K (lay g ls)
 free:∀r,ls r≠none->g r=none
section
variable {b:Nat}{K:ah}{g:bD}{ls:Lcl}{r q:Nat}{xs:List AV}
theorem ak:iE ls r xs r=some xs:=by simp [iE]
theorem aA {x:Nat}(h:x≠r):iE ls r xs x=ls x:=by simp [iE,h]
theorem aaC:lay g (iE ls r xs)=upd (lay g ls) r (xs.map Cell.av):=by
 funext x
 simp only [lay,iE,upd];by_cases h:x=r
 ·simp [h]
 ·simp [h]
theorem MN {cs:List Cell}(h:ls q=none):lay (upd g q cs) ls=upd (lay g ls) q cs:=by
 funext x
 simp only [lay,upd];by_cases hx:x=q
 ·subst hx;simp [h]
 ·simp [hx]
theorem Loc.of(G:Good b K g):Loc b K g noL:=⟨G,λ_ h=> absurd rfl h⟩
theorem Loc.out(L:Loc b K g ls):Good b K g:=L.good.sub λq cs h=> by
 unfold lay;cases hl:ls q with
 | none=> exact h
 | some xs=> rw [L.free q (by rw [hl];simp)] at h;cases h
theorem Loc.new(L:Loc b K g ls)(o:fV):Loc b (K.new o) g ls:=⟨L.good.new o,L.free⟩
theorem Loc.newL(L:Loc b K g ls){ty:TypeId}(hc:xs.all AV.aQ=true)(hr:r=K.next)(ht:ty < gQ:=by decide):Loc b (K.new (.blk 0 ty xs)) g (iE ls r xs):=by
 subst hr;refine⟨by rw [aaC];exact L.good.newObj hc ht,λx hx=> ?_⟩;by_cases h:x=K.next
 ·rw [h];exact L.out.isNone (zac _)
 ·rw [aA h] at hx;exact L.free x hx
theorem pO(h:ls r=some xs):lay g ls r=some (xs.map Cell.av):=by simp [lay,h]
theorem Loc.at_(L:Loc b K g ls){cs:List Cell}(h:g q=some cs):lay g ls q=some cs/\ls q=none:=by
 cases hl:ls q with
 | none=> exact⟨by simp [lay,hl,h],rfl⟩
 | some xs=> rw [L.free q (by rw [hl];simp)] at h;cases h
theorem Loc.obj(L:Loc b K g ls){cs:List Cell}(h:g q=some cs):lay g ls q=some cs:=(L.at_ h).1
theorem Loc.ld(L:Loc b K g ls)(h:ls r=some xs){i:Nat}{v:AV}(hi:xs[i]?=some v):ld (.ref r 0 i) K=some (v,K):=
 L.good.load (pO h) (i:=i) (x:=v) (by rw [zaM,hi];rfl)
theorem Loc.lda(L:Loc b K g ls)(h:ls r=some xs){i n:Nat}{ys:List AV}(hi:(xs.drop i).take n=ys)(hn:ys.length=n)(hp:0 < n):lda n (.ref r 0 i) K=some (.agg ys,K):=
 L.good.loads (pO h) (i:=i) (n:=n) (xs:=ys) (by rw [<-hi,zcA,zdz]) hn hp
theorem WZ {i:Nat}{vs:List AV}:mF (xs.map Cell.av) i vs=(aW xs i vs).map Cell.av:=by
 simp only [mF,aW,zbK,zcA,zdz]
theorem Loc.ahO(L:Loc b K g ls)(h:ls r=some xs){K':ah}{ys:List AV}(G:Good b K' (upd (lay g ls) r (ys.map Cell.av))):Loc b K' g (iE ls r ys):=by
 refine⟨by rw [aaC];exact G,λx hx=> ?_⟩;by_cases e:x=r
 ·subst e;exact L.free x (by rw [h];simp)
 ·rw [aA e] at hx;exact L.free x hx
theorem Loc.st(L:Loc b K g ls)(hb:K.base<=b)(h:ls r=some xs){i:Nat}{v:AV}(hi:i < xs.length)(hv:One v):∃K',st 1 (.ref r 0 i) v K=some (aZ,K')/\Loc b K' g (iE ls r (xs.set i v))/\Step b K K':=by
 obtain⟨K',t1,t2,t3,t4⟩:=L.good.store hb (pO h) (i:=i) (by simpa using hi) hv;rw [<-List.map_set] at t2;exact⟨K',t1,L.ahO h t2,t3⟩
theorem Loc.sta(L:Loc b K g ls)(hb:K.base<=b)(h:ls r=some xs){i n:Nat}{vs:List AV}(hi:i+n<=xs.length)(hn:vs.length=n)(hv:vs.all AV.aQ=true):∃K',Proofs.YtljogojaihgdlaaGreat.st n (.ref r 0 i) (.agg vs) K=some (aZ,K')/\Loc b K' g (iE ls r (aW xs i vs))/\Step b K K':=by
 obtain⟨K',t1,t2,t3,t4⟩:=L.good.stores hb (pO h) (i:=i) (by simpa using hi) hn hv;rw [WZ] at t2;exact⟨K',t1,L.ahO h t2,t3⟩
theorem aaD {vs:List AV}(h:vs.length=xs.length):aW xs 0 vs=vs:=by
 unfold aW;rw [zds,zaK,zaW,zaQ (by omega),za8]
theorem Loc.whole(L:Loc b K g ls)(hb:K.base<=b)(h:ls r=some xs){n:Nat}{vs:List AV}(hx:xs.length=n)(hn:vs.length=n)(hp:0 < n)(hv:vs.all AV.aQ=true):∃K',Proofs.YtljogojaihgdlaaGreat.st n (.ref r 0 0) (.agg vs) K=some (aZ,K')/\Proofs.YtljogojaihgdlaaGreat.lda n (.ref r 0 0) K'=some (.agg vs,K')/\Loc b K' g (iE ls r vs)/\Step b K K':=by
 obtain⟨K',t1,t2,t3⟩:=L.sta hb h (i:=0) (n:=n) (vs:=vs) (by omega) hn hv;rw [aaD (by omega)] at t2;exact⟨K',t1,t2.lda ak (i:=0) (n:=n) (by rw [zaP,zaA (by omega)]) hn hp,t2,t3⟩
theorem Loc.call(L:Loc b K g ls){cs0 cs:List Cell}(hq:g q=some cs0){K':ah}(G:Good b K' (upd (lay g ls) q cs)):Loc b K' (upd g q cs) ls:=by
 obtain⟨h1,h2⟩:=L.at_ hq;refine⟨by rw [MN h2];exact G,λr hr=> ?_⟩;have hne:r≠q:=λe=> by subst e;exact hr h2
 rw [bH hne];exact L.free r hr
theorem Good.exact {b:Nat}{K:ah}{g:bD}{r:Nat}{xs:List AV}(G:Good b K g)(h:g r=some (xs.map Cell.av)):∃ty,K.get r=.blk 0 ty xs/\ty < gQ:=by
 obtain⟨_,τ,hR⟩:=G;have R:=hR r _ h;obtain⟨ty,ys,h1,h2,h3,h4⟩:=R.blk;have:ys=xs:=by
  apply zbf
  intro i;rcases zaT i xs.length with hi | hi
  ·have hx:ys[i]?=some (ys[i]'(by simp at h2;omega)):=zab _;have:=h4 i (.av xs[i]) _ (by simp [hi]) hx;simp only [CR] at this;rw [hx,this];simp [hi]
  ·rw [zaH (by simp at h2;omega),zaH hi]
 subst this;exact⟨ty,h1,R.tyl _ _ _ h1⟩
theorem Vu {b:Nat}{K K':ah}{g g':bD}{r:Nat}{xs:List AV}(G:Good b K g)(G':Good b K' g')(hk:Keeps K K')(h:g r=some (xs.map Cell.av))(h':g' r=some (xs.map Cell.av)):K'.get r=K.get r:=by
 have hr:=G.lt h;obtain⟨ty,e1,t1⟩:=G.exact h;obtain⟨ty',e2,t2⟩:=G'.exact h';obtain⟨g2,ty2,c2,e3,k⟩:=hk.types r hr _ _ _ e1;rw [e2] at e3;cases e3;rcases k with rfl | k
 ·rw [e1,e2]
 ·exact absurd k (Nat.not_le.2 t2)
end
structure COk(ca:Cache):Prop where
 len:ca.l.length < 1000000
 sets:1<=ca.sets
 clk:0<=ca.bZ/\ca.bZ < 1000000000
 dat:∀e∈ca.l,e.data.length < 1000000000
 used:∀e∈ca.l,0<=e.used/\e.used < 1000000000
theorem AO {b:Nat}{H:ah}{g:bD}{q:Nat}(G:Good b H g)(hb:H.base<=b){c:Cache}(h:g q=some (dn c))(C:COk c)(e:Ent)(hel:e.data.length < 1000000000):
  ∃H',cl 121 [.ref q 0 0,.agg e.av] H=some (I (c.put e).2,H')/\Good b H' (upd g q (dn (c.put e).1))/\Step b H H':=
 Vl G hb h C.len C.sets C.clk e hel (pY _ e.data)
def tV(n:Nxt):AV:=.tup [.agg n.2.1.av,B n.2.2]
abbrev zD9:List AV:=[zI,zI,zI,zI,zI,zI,zN,zI,zI]
theorem DN:dat ([]:List Int)=zN:=by simp [dat,gI]
section
variable {b:Nat}{H:ah}{g:bD}{q:Nat}{ca:Cache}
theorem ahS(G:Good b H g)(hb:H.base<=b)(h:g q=some (dn ca))(C:COk ca)(d:bJ)(bn:Int)(p:Pkt)(hp:p.data.length < 1000000000):
  ∃H',cl 157 [.agg d.av,I bn,.ref q 0 0,.agg p.av] H=some (tV ((ca.put ⟨d.head,-1,d.aj,0,false,p.data⟩).1,{ d with step:=6,aT:=1,head:=bn,data:=if p.flag then p.data else [] },true),H')/\
   Good b H' (upd g q (dn (ca.put ⟨d.head,-1,d.aj,0,false,p.data⟩).1))/\Step b H H':=by
 refine jY rfl rfl (ali _ _ _ _ _ _) ?_;have L1:=(Loc.of G).newL (ty:=44) (xs:=d.av) (r:=H.next) (bF d) rfl;have L2:=L1.newL (ty:=112) (xs:=p.av) (r:=H.next+1) (aS p) (by rw [fE]);have L3:=L2.newL (ty:=44) (xs:=zD9) (r:=H.next+1+1) rfl (by rw [fE,fE]);have s3:Step b H _:=((Step.new (.blk 0 44 d.av) G.1).trans (Step.new (.blk 0 112 p.av) L1.good.1)).trans (Step.new (.blk 0 44 zD9) L2.good.1);have d1:=L3.ld (r:=H.next) (i:=1) (v:=I d.aj) (by first | exact ak | (rw [aA (by omega)];first | exact ak | (rw [aA (by omega)];first | exact ak | (rw [aA (by omega)];first | exact ak | (rw [aA (by omega)];first | exact ak | (rw [aA (by omega)];exact ak)))))) rfl;have d5:=L3.ld (r:=H.next) (i:=5) (v:=I d.head) (by first | exact ak | (rw [aA (by omega)];first | exact ak | (rw [aA (by omega)];first | exact ak | (rw [aA (by omega)];first | exact ak | (rw [aA (by omega)];first | exact ak | (rw [aA (by omega)];exact ak)))))) rfl;have p8:=L3.ld (r:=H.next+1) (i:=8) (v:=dat p.data) (by first | exact ak | (rw [aA (by omega)];first | exact ak | (rw [aA (by omega)];first | exact ak | (rw [aA (by omega)];first | exact ak | (rw [aA (by omega)];first | exact ak | (rw [aA (by omega)];exact ak)))))) rfl;have e1:=λH=> aan H d.aj d.head (-1) false hp (pY H p.data);obtain⟨K1,a1,a2,a3⟩:=AO L3.good (by rw [s3.base];exact hb) (L3.obj h) C ⟨d.head,-1,d.aj,0,false,p.data⟩ hp;have M1:=L3.call h a2;have t1:=s3.trans a3;obtain⟨K2,u2,M2,w2⟩:=M1.st (by rw [t1.base];exact hb) (r:=H.next) (by first | exact ak | (rw [aA (by omega)];first | exact ak | (rw [aA (by omega)];first | exact ak | (rw [aA (by omega)];first | exact ak | (rw [aA (by omega)];first | exact ak | (rw [aA (by omega)];exact ak)))))) (i:=3) (v:=I 6) (by simp [bJ.av]) dO;have t2:=t1.trans w2;obtain⟨K3,u3,M3,w3⟩:=M2.st (by rw [t2.base];exact hb) (r:=H.next) (by first | exact ak | (rw [aA (by omega)];first | exact ak | (rw [aA (by omega)];first | exact ak | (rw [aA (by omega)];first | exact ak | (rw [aA (by omega)];first | exact ak | (rw [aA (by omega)];exact ak)))))) (i:=4) (v:=I 1) (by simp [bJ.av]) dO;have t3:=t2.trans w3;obtain⟨K4,u4,M4,w4⟩:=M3.st (by rw [t3.base];exact hb) (r:=H.next) (by first | exact ak | (rw [aA (by omega)];first | exact ak | (rw [aA (by omega)];first | exact ak | (rw [aA (by omega)];first | exact ak | (rw [aA (by omega)];first | exact ak | (rw [aA (by omega)];exact ak)))))) (i:=5) (v:=I bn) (by simp [bJ.av]) dO;have t4:=t3.trans w4;obtain⟨K5,u5,M5,w5⟩:=M4.st (by rw [t4.base];exact hb) (r:=H.next) (by first | exact ak | (rw [aA (by omega)];first | exact ak | (rw [aA (by omega)];first | exact ak | (rw [aA (by omega)];first | exact ak | (rw [aA (by omega)];first | exact ak | (rw [aA (by omega)];exact ak)))))) (i:=6) (v:=zN) (by simp [bJ.av]) qC;have t5:=t4.trans w5
 have p7:=M5.ld (r:=H.next+1) (i:=7) (v:=B p.flag) (by first | exact ak | (rw [aA (by omega)];first | exact ak | (rw [aA (by omega)];first | exact ak | (rw [aA (by omega)];first | exact ak | (rw [aA (by omega)];first | exact ak | (rw [aA (by omega)];exact ak)))))) rfl;cases hf:p.flag with
 | true=>
  rw [hf] at p7;have q8:=M5.ld (r:=H.next+1) (i:=8) (v:=dat p.data) (by first | exact ak | (rw [aA (by omega)];first | exact ak | (rw [aA (by omega)];first | exact ak | (rw [aA (by omega)];first | exact ak | (rw [aA (by omega)];first | exact ak | (rw [aA (by omega)];exact ak)))))) rfl;have e2:=λH=> lD H p.data hp;obtain⟨K6,u6,M6,w6⟩:=M5.st (by rw [t5.base];exact hb) (r:=H.next) (by first | exact ak | (rw [aA (by omega)];first | exact ak | (rw [aA (by omega)];first | exact ak | (rw [aA (by omega)];first | exact ak | (rw [aA (by omega)];first | exact ak | (rw [aA (by omega)];exact ak)))))) (i:=6) (v:=dat p.data) (by simp [bJ.av]) rW;have t6:=t5.trans w6;have f1:=M6.lda (r:=H.next) (by first | exact ak | (rw [aA (by omega)];first | exact ak | (rw [aA (by omega)];first | exact ak | (rw [aA (by omega)];first | exact ak | (rw [aA (by omega)];first | exact ak | (rw [aA (by omega)];exact ak)))))) (i:=0) (n:=9) (ys:=(bJ.mk d.aO d.aj d.id 6 1 bn p.data d.next d.told).av) rfl rfl (by decide);obtain⟨K7,u7,v7,M7,w7⟩:=M6.whole (by rw [t6.base];exact hb) (r:=H.next+1+1) (by first | exact ak | (rw [aA (by omega)];first | exact ak | (rw [aA (by omega)];first | exact ak | (rw [aA (by omega)];first | exact ak | (rw [aA (by omega)];first | exact ak | (rw [aA (by omega)];exact ak)))))) (n:=9) (vs:=(bJ.mk d.aO d.aj d.id 6 1 bn p.data d.next d.told).av) rfl rfl (by decide) (bF _);refine⟨K7,?_,M7.out,t6.trans w7⟩;simp only [Nat.reduceLT,Int.reduceNeg,xq_,Zv,EF,aG (bF d),aG (aS p),d1,d5,p8,e1,a1,u2,u3,u4,u5,p7,q8,e2,u6,f1,u7,v7,tV]
 | false=>
  rw [hf] at p7;have f1:=M5.lda (r:=H.next) (by first | exact ak | (rw [aA (by omega)];first | exact ak | (rw [aA (by omega)];first | exact ak | (rw [aA (by omega)];first | exact ak | (rw [aA (by omega)];first | exact ak | (rw [aA (by omega)];exact ak)))))) (i:=0) (n:=9) (ys:=(bJ.mk d.aO d.aj d.id 6 1 bn [] d.next d.told).av) (by simp only [bJ.av,DN];rfl) rfl (by decide);obtain⟨K7,u7,v7,M7,w7⟩:=M5.whole (by rw [t5.base];exact hb) (r:=H.next+1+1) (by first | exact ak | (rw [aA (by omega)];first | exact ak | (rw [aA (by omega)];first | exact ak | (rw [aA (by omega)];first | exact ak | (rw [aA (by omega)];first | exact ak | (rw [aA (by omega)];exact ak)))))) (n:=9) (vs:=(bJ.mk d.aO d.aj d.id 6 1 bn [] d.next d.told).av) rfl rfl (by decide) (bF _);refine⟨K7,?_,M7.out,t5.trans w7⟩;simp only [Nat.reduceLT,Int.reduceNeg,xq_,Zv,EF,aG (bF d),aG (aS p),d1,d5,p8,e1,a1,u2,u3,u4,u5,p7,f1,u7,v7,tV]
def uT(d:bJ)(bn:Int)(c:Cache)(p:Pkt):Nxt:=
 if p.aT≠0 then(c,{ d with aT:=p.aT,head:=p.ptr,told:=p.ptr,data:=p.data,step:=2 },true)
 else((c.put ⟨-1,-1,d.aj,0,false,p.data⟩).1,{ d with told:=p.ptr,step:=6,aT:=1,head:=bn,data:=[] },true)
theorem aaE(G:Good b H g)(hb:H.base<=b)(h:g q=some (dn ca))(C:COk ca)(d:bJ)(bn:Int)(p:Pkt)(hp:p.data.length < 1000000000):
  ∃H',cl 156 [.agg d.av,I bn,.ref q 0 0,.agg p.av] H=some (tV (uT d bn ca p),H')/\Good b H' (upd g q (dn (uT d bn ca p).1))/\Step b H H':=by
 have hb0:H.base<=H.next:=zax hb G.1
 have e2:=λH=> lD H p.data hp;refine jY rfl rfl (alh _ _ _ _ _ _) ?_;by_cases hs:p.aT=0;rotate_left
 ·have hm:uT d bn ca p=(ca,{ d with aT:=p.aT,head:=p.ptr,told:=p.ptr,data:=p.data,step:=2 },true):=by simp only [uT];rw [if_pos hs]
  rw [hm];refine⟨((H.new (.blk 0 44 (bJ.mk d.aO d.aj d.id 2 p.aT p.ptr p.data d.next p.ptr).av)).new (.blk 0 112 p.av)).new (.blk 0 44 (bJ.mk d.aO d.aj d.id 2 p.aT p.ptr p.data d.next p.ptr).av),?_,by rw [fJ h];exact((G.new _).new _).new _,((Step.new _ G.1).trans (Step.new _ (G.new _).1)).trans (Step.new _ ((G.new _).new _).1)⟩;simp only [Nat.reduceLT,Int.reduceNeg,Nat.reduceAdd,Nat.reduceLeDiff,aW,xq_,hq_,Zu,aG,bJ.av,Pkt.av,e2,hb0,ckM,hs,zam,tV]
 ·have hm:uT d bn ca p=((ca.put ⟨-1,-1,d.aj,0,false,p.data⟩).1,{ d with told:=p.ptr,step:=6,aT:=1,head:=bn,data:=[] },true):=by simp only [uT];rw [if_neg (λh=> h hs)]
  rw [hm];let d2:bJ:=bJ.mk d.aO d.aj d.id d.step p.aT p.ptr p.data d.next p.ptr
  have L1:=(Loc.of G).newL (ty:=44) (xs:=d2.av) (r:=H.next) (bF d2) rfl;have L2:=L1.newL (ty:=112) (xs:=p.av) (r:=H.next+1) (aS p) (by rw [fE]);have L3:=L2.newL (ty:=44) (xs:=zD9) (r:=H.next+1+1) rfl (by rw [fE,fE]);have s3:Step b H _:=((Step.new (.blk 0 44 d2.av) G.1).trans (Step.new (.blk 0 112 p.av) L1.good.1)).trans (Step.new (.blk 0 44 zD9) L2.good.1);have e1:=λH=> aan H d.aj (-1) (-1) false hp (pY H p.data);obtain⟨K1,a1,a2,a3⟩:=AO L3.good (by rw [s3.base];exact hb) (L3.obj h) C ⟨-1,-1,d.aj,0,false,p.data⟩ hp;have M1:=L3.call h a2;have t1:=s3.trans a3;obtain⟨K2,u2,M2,w2⟩:=M1.st (by rw [t1.base];exact hb) (r:=H.next) (by first | exact ak | (rw [aA (by omega)];first | exact ak | (rw [aA (by omega)];first | exact ak | (rw [aA (by omega)];first | exact ak | (rw [aA (by omega)];first | exact ak | (rw [aA (by omega)];exact ak)))))) (i:=3) (v:=I 6) (by simp [bJ.av]) dO;have t2:=t1.trans w2;obtain⟨K3,u3,M3,w3⟩:=M2.st (by rw [t2.base];exact hb) (r:=H.next) (by first | exact ak | (rw [aA (by omega)];first | exact ak | (rw [aA (by omega)];first | exact ak | (rw [aA (by omega)];first | exact ak | (rw [aA (by omega)];first | exact ak | (rw [aA (by omega)];exact ak)))))) (i:=4) (v:=I 1) (by simp [bJ.av]) dO;have t3:=t2.trans w3;obtain⟨K4,u4,M4,w4⟩:=M3.st (by rw [t3.base];exact hb) (r:=H.next) (by first | exact ak | (rw [aA (by omega)];first | exact ak | (rw [aA (by omega)];first | exact ak | (rw [aA (by omega)];first | exact ak | (rw [aA (by omega)];first | exact ak | (rw [aA (by omega)];exact ak)))))) (i:=5) (v:=I bn) (by simp [bJ.av]) dO;have t4:=t3.trans w4;obtain⟨K5,u5,M5,w5⟩:=M4.st (by rw [t4.base];exact hb) (r:=H.next) (by first | exact ak | (rw [aA (by omega)];first | exact ak | (rw [aA (by omega)];first | exact ak | (rw [aA (by omega)];first | exact ak | (rw [aA (by omega)];first | exact ak | (rw [aA (by omega)];exact ak)))))) (i:=6) (v:=zN) (by simp [bJ.av]) qC;have t5:=t4.trans w5;have f1:=M5.lda (r:=H.next) (by first | exact ak | (rw [aA (by omega)];first | exact ak | (rw [aA (by omega)];first | exact ak | (rw [aA (by omega)];first | exact ak | (rw [aA (by omega)];first | exact ak | (rw [aA (by omega)];exact ak)))))) (i:=0) (n:=9) (ys:=(bJ.mk d.aO d.aj d.id 6 1 bn [] d.next p.ptr).av) (by simp only [bJ.av,DN];rfl) rfl (by decide);obtain⟨K7,u7,v7,M7,w7⟩:=M5.whole (by rw [t5.base];exact hb) (r:=H.next+1+1) (by first | exact ak | (rw [aA (by omega)];first | exact ak | (rw [aA (by omega)];first | exact ak | (rw [aA (by omega)];first | exact ak | (rw [aA (by omega)];first | exact ak | (rw [aA (by omega)];exact ak)))))) (n:=9) (vs:=(bJ.mk d.aO d.aj d.id 6 1 bn [] d.next p.ptr).av) rfl rfl (by decide) (bF _);refine⟨K7,?_,M7.out,t5.trans w7⟩;simp only [d2,bJ.av,Pkt.av,hs,DN] at a1 f1 u7 v7;simp only [Nat.reduceLT,Int.reduceNeg,Nat.reduceAdd,Nat.reduceLeDiff,aW,xq_,hq_,Zu,aG,bJ.av,Pkt.av,e2,hb0,ckM,hs,zae,e1,a1,u2,u3,u4,u5,f1,u7,v7,tV,DN]
theorem uU(G:Good b H g)(d:bJ)(p:Pkt):∃ls:Lcl,Loc b (((H.new (.blk 0 44 d.av)).new (.blk 0 112 p.av)).new (.blk 0 44 zD9)) g ls/\ls H.next=some d.av/\ls (H.next+1)=some p.av/\ls (H.next+1+1)=some zD9/\
  Step b H (((H.new (.blk 0 44 d.av)).new (.blk 0 112 p.av)).new (.blk 0 44 zD9)):=by
 have L1:=(Loc.of G).newL (ty:=44) (xs:=d.av) (r:=H.next) (bF d) rfl;have L2:=L1.newL (ty:=112) (xs:=p.av) (r:=H.next+1) (aS p) (by rw [fE]);have L3:=L2.newL (ty:=44) (xs:=zD9) (r:=H.next+1+1) rfl (by rw [fE,fE]);exact⟨_,L3,(by first | exact ak | (rw [aA (by omega)];first | exact ak | (rw [aA (by omega)];first | exact ak | (rw [aA (by omega)];first | exact ak | (rw [aA (by omega)];first | exact ak | (rw [aA (by omega)];exact ak)))))),(by first | exact ak | (rw [aA (by omega)];first | exact ak | (rw [aA (by omega)];first | exact ak | (rw [aA (by omega)];first | exact ak | (rw [aA (by omega)];first | exact ak | (rw [aA (by omega)];exact ak)))))),(by first | exact ak | (rw [aA (by omega)];first | exact ak | (rw [aA (by omega)];first | exact ak | (rw [aA (by omega)];first | exact ak | (rw [aA (by omega)];first | exact ak | (rw [aA (by omega)];exact ak)))))),((Step.new (.blk 0 44 d.av) G.1).trans (Step.new (.blk 0 112 p.av) L1.good.1)).trans (Step.new (.blk 0 44 zD9) L2.good.1)⟩
theorem aaF(G:Good b H g)(hb:H.base<=b)(h:g q=some (dn ca))(C:COk ca)(d:bJ)(bn:Int)(p:Pkt)(hp:p.data.length < 1000000000):
  ∃H',cl 114 [.agg d.av,I bn,.ref q 0 0,.agg p.av] H=some (tV (dQ d bn ca p),H')/\Good b H' (upd g q (dn (dQ d bn ca p).1))/\Step b H H':=by
 refine jY rfl rfl (akB _ _ _ _ _ _) ?_;obtain⟨ls,L,k0,k1,k2,s⟩:=uU G d p;have d0:=L.ld k0 (i:=0) (v:=I d.aO) rfl;have d3:=L.ld k0 (i:=3) (v:=I d.step) rfl;have dA:=L.lda k0 (i:=0) (n:=9) (ys:=d.av) rfl rfl (by decide);have pA:=L.lda k1 (i:=0) (n:=9) (ys:=p.av) rfl rfl (by decide);have hf:=λH=> Tc H d p;have ez:bd 44 []=some (.agg zD9):=by simp only [xq_,Wn,kE,eu]
 have hbK:(((H.new (.blk 0 44 d.av)).new (.blk 0 112 p.av)).new (.blk 0 44 zD9)).base<=b:=by rw [s.base];exact hb
 obtain⟨Kz,z1,z2,z3,z4⟩:=L.whole hbK k2 (n:=9) (vs:=zD9) rfl rfl (by decide) rfl;have no:vN ca=(ca,.zero,false):=rfl;have zu:Good b Kz (upd g q (dn ca)):=by rw [fJ h];exact z3.out
 by_cases h1:d.aO≠1∨d.fits p=false
 ·have hm:dQ d bn ca p=(ca,.zero,false):=by simp only [dQ];rw [if_pos h1];rfl
  rw [hm];refine⟨Kz,?_,zu,s.trans z4⟩;by_cases hk:d.aO=1
  ·have hff:d.fits p=false:=h1.resolve_left (λh=> h hk);rw [hk] at d0;simp only [Nat.reduceLT,xq_,GU,aG (bF d),aG (aS p),d0,dA,pA,hf,hff,zae,zam,ez,z1,z2,tV,lG]
  ·simp only [Nat.reduceLT,xq_,GU,aG (bF d),aG (aS p),d0,hk,zam,ez,z1,z2,tV,lG]
 ·have hk:d.aO=1:=Classical.byContradiction λh=> h1 (.inl h);have hff:d.fits p=true:=by cases hx:d.fits p <;> simp_all
  rw [hk] at d0;by_cases s1:d.step=1
  ·have hm:dQ d bn ca p=uT d bn ca p:=by simp only [dQ,uT];rw [if_neg h1,if_pos s1]
   rw [hm];rw [s1] at d3;obtain⟨K1,a1,a2,a3⟩:=aaE L.good hbK (L.obj h) C d bn p hp;have M:=L.call h a2;obtain⟨K2,u1,u2,u3,u4⟩:=M.whole (by rw [a3.base];exact hbK) k2 (n:=9) (vs:=(uT d bn ca p).2.1.av) rfl rfl (by decide) (bF _);refine⟨K2,?_,u3.out,(s.trans a3).trans u4⟩;simp only [tV] at a1;simp only [Nat.reduceLT,Int.reduceEq,xq_,GU,aG (bF d),aG (aS p),d0,dA,pA,hf,hff,zae,d3,a1,u1,u2,tV]
  ·by_cases s2:d.step=2
   ·have hm:dQ d bn ca p=((ca.put ⟨d.head,-1,d.aj,0,false,p.data⟩).1,{ d with step:=6,aT:=1,head:=bn,data:=if p.flag then p.data else [] },true):=by simp only [dQ];rw [if_neg h1,if_neg s1,if_pos s2]
    rw [hm];obtain⟨K1,a1,a2,a3⟩:=ahS L.good hbK (L.obj h) C d bn p hp;have M:=L.call h a2;obtain⟨K2,u1,u2,u3,u4⟩:=M.whole (by rw [a3.base];exact hbK) k2 (n:=9) (vs:=({ d with step:=6,aT:=1,head:=bn,data:=if p.flag then p.data else [] }:bJ).av) rfl rfl (by decide) (bF _);refine⟨K2,?_,u3.out,(s.trans a3).trans u4⟩;rw [s2] at d3;simp only [tV] at a1;simp only [Nat.reduceLT,Int.reduceEq,xq_,GU,aG (bF d),aG (aS p),d0,dA,pA,hf,hff,zae,d3,a1,u1,u2,tV]
   ·by_cases s6:d.step=6
    ·have hm:dQ d bn ca p=(ca,{ d with step:=0 },true):=by simp only [dQ];rw [if_neg h1,if_neg s1,if_neg s2,if_pos s6]
     rw [hm];obtain⟨K1,a1,M,a3⟩:=L.st hbK k0 (i:=3) (v:=I 0) (by simp [bJ.av]) dO;have k2':iE ls H.next (d.av.set 3 (I 0)) (H.next+1+1)=some zD9:=by rw [aA (by omega)];exact k2
     have dB:=M.lda ak (i:=0) (n:=9) (ys:=({ d with step:=0 }:bJ).av) rfl rfl (by decide);obtain⟨K2,u1,u2,u3,u4⟩:=M.whole (by rw [a3.base];exact hbK) k2' (n:=9) (vs:=({ d with step:=0 }:bJ).av) rfl rfl (by decide) (bF _);refine⟨K2,?_,by rw [fJ h];exact u3.out,(s.trans a3).trans u4⟩;rw [s6] at d3;simp only [Nat.reduceLT,Int.reduceEq,xq_,GU,aG (bF d),aG (aS p),d0,dA,pA,hf,hff,zae,d3,a1,dB,u1,u2,tV]
    ·have hm:dQ d bn ca p=(ca,.zero,false):=by simp only [dQ];rw [if_neg h1,if_neg s1,if_neg s2,if_neg s6];rfl
     rw [hm];refine⟨Kz,?_,zu,s.trans z4⟩;simp only [Nat.reduceLT,xq_,GU,aG (bF d),aG (aS p),d0,dA,pA,hf,hff,zae,d3,s1,s2,s6,ez,z1,z2,tV,lG]
end
abbrev zE6:List AV:=[zI,zI,zI,zI,zB,zN]
theorem oP {n r gg i:Nat}{v u:AV}{K K':ah}(h:st n (.ref r gg i) v K=some (u,K')){x:Nat}(hx:x≠r):K'.get x=K.get x:=by
 unfold st at h;simp only at h;cases hr:K.get r with
 | map k es=> rw [hr] at h;cases h
 | blk g' ty cells=>
  rw [hr] at h;simp only at h;split at h
  ·simp only [zaa,zad] at h;rw [<-h.2,dR,if_neg hx]
  ·cases h
section
variable {b:Nat}{H:ah}{g:bD}{q:Nat}{ca:Cache}
def uV(d:bJ)(bn:Int)(c:Cache):Cache × bJ:=
 if d.next≠-1 then(c,{ d with step:=3 })
 else((c.put ⟨-1,-1,d.aj,0,true,d.data⟩).1,{ d with step:=6,aT:=2,head:=bn,data:=[] })
theorem CV {K:ah}{ls:Lcl}(L:Loc b K g ls)(hb:K.base<=b)(h:g q=some (dn ca))(C:COk ca)(d:bJ)(bn:Int)(hd:d.data.length < 1000000000){r r':Nat}(hrr:r≠r')(k0:ls r=some d.av)(k1:ls r'=some zD9):
  ∃H',Aq cl (I bn) (.ref q 0 0) (.ref r 0 0) (.ref r' 0 0) K=some (.agg (uV d bn ca).2.av,H')/\Good b H' (upd g q (dn (uV d bn ca).1))/\Step b K H':=by
 have d7:=L.ld k0 (i:=7) (v:=I d.next) rfl;by_cases hn:d.next=-1
 rotate_left
 ·have hm:uV d bn ca=(ca,{ d with step:=3 }):=by unfold uV;rw [if_pos hn]
  rw [hm];obtain⟨K1,a1,M1,a3⟩:=L.st hb k0 (i:=3) (v:=I 3) (by simp [bJ.av]) dO;have k2':iE ls r (d.av.set 3 (I 3)) r'=some zD9:=by rw [aA hrr.symm];exact k1
  have dB:=M1.lda ak (i:=0) (n:=9) (ys:=({ d with step:=3 }:bJ).av) rfl rfl (by decide);obtain⟨K2,u1,u2,u3,u4⟩:=M1.whole (by rw [a3.base];exact hb) k2' (n:=9) (vs:=({ d with step:=3 }:bJ).av) rfl rfl (by decide) (bF _);refine⟨K2,?_,by rw [fJ h];exact u3.out,a3.trans u4⟩;simp only [Int.reduceNeg,xq_,Aq,d7,hn,zam,a1,dB,u1,u2]
 ·have hm:uV d bn ca=((ca.put ⟨-1,-1,d.aj,0,true,d.data⟩).1,{ d with step:=6,aT:=2,head:=bn,data:=[] }):=by unfold uV;rw [if_neg (λh=> h hn)]
  rw [hm];have d1:=L.ld k0 (i:=1) (v:=I d.aj) rfl;have d6:=L.ld k0 (i:=6) (v:=dat d.data) rfl;have e1:=λH=> aan H d.aj (-1) (-1) true hd (pY H d.data);obtain⟨K1,a1,a2,a3⟩:=AO L.good hb (L.obj h) C ⟨-1,-1,d.aj,0,true,d.data⟩ hd;have M1:=L.call h a2;obtain⟨K2,u2,M2,w2⟩:=M1.st (by rw [a3.base];exact hb) k0 (i:=3) (v:=I 6) (by simp [bJ.av]) dO;have t2:=a3.trans w2;obtain⟨K3,u3,M3,w3⟩:=M2.st (by rw [t2.base];exact hb) ak (i:=4) (v:=I 2) (by simp [bJ.av]) dO;have t3:=t2.trans w3;obtain⟨K4,u4,M4,w4⟩:=M3.st (by rw [t3.base];exact hb) ak (i:=5) (v:=I bn) (by simp [bJ.av]) dO;have t4:=t3.trans w4;obtain⟨K5,u5,M5,w5⟩:=M4.st (by rw [t4.base];exact hb) ak (i:=6) (v:=zN) (by simp [bJ.av]) qC;have t5:=t4.trans w5;have f1:=M5.lda ak (i:=0) (n:=9) (ys:=(bJ.mk d.aO d.aj d.id 6 2 bn [] d.next d.told).av) (by simp only [bJ.av,DN];rfl) rfl (by decide);have hne:r'≠r:=hrr.symm;obtain⟨K7,u7,v7,M7,w7⟩:=M5.whole (by rw [t5.base];exact hb) (r:=r') (xs:=zD9) (by rw [aA hne,aA hne,aA hne,aA hne];exact k1) (n:=9) (vs:=(bJ.mk d.aO d.aj d.id 6 2 bn [] d.next d.told).av) rfl rfl (by decide) (bF _);refine⟨K7,?_,M7.out,t5.trans w7⟩;simp only [hn] at u7 v7;simp only [Int.reduceNeg,xq_,Aq,d7,hn,zae,d1,d6,e1,a1,u2,u3,u4,u5,f1,u7,v7]
theorem ahT(G:Good b H g)(hb:H.base<=b)(h:g q=some (dn ca))(C:COk ca)(d:bJ)(bn:Int)(hd:d.data.length < 1000000000):
  ∃H',cl 158 [.agg d.av,I bn,.ref q 0 0] H=some (.agg (bT d bn ca).2.av,H')/\Good b H' (upd g q (dn (bT d bn ca).1))/\Step b H H':=by
 refine jY rfl rfl (alj _ _ _ _ _) ?_;have L1:=(Loc.of G).newL (ty:=44) (xs:=d.av) (r:=H.next) (bF d) rfl;have L2:=L1.newL (ty:=44) (xs:=zD9) (r:=H.next+1) rfl (by rw [fE]);have d1:=L2.ld (r:=H.next) (i:=1) (v:=I d.aj) (by(repeat rw [aA (by omega)]);first | exact k0 | exact k1 | exact k2 | rw [ak]) rfl;have ef:=qK L2.good (L2.obj h) C.len C.dat d.aj;have L3:=L2.newL (ty:=166) (xs:=zE6) (r:=H.next+1+1) rfl (by rw [fE,fE]);have s3:Step b H _:=((Step.new (.blk 0 44 d.av) G.1).trans (Step.new (.blk 0 44 zD9) L1.good.1)).trans (Step.new (.blk 0 166 zE6) L2.good.1);obtain⟨K1,z1,z2,M,z4⟩:=L3.whole (by rw [s3.base];exact hb) (r:=H.next+1+1) (xs:=zE6) (by(repeat rw [aA (by omega)]);first | exact k0 | exact k1 | exact k2 | rw [ak]) (n:=6) (vs:=((ca.find d.aj).getD .zero).av) rfl rfl (by decide) (kU _);have t1:=s3.trans z4;have d7:=M.ld (r:=H.next) (i:=7) (v:=I d.next) (by(repeat rw [aA (by omega)]);first | exact k0 | exact k1 | exact k2 | rw [ak]) rfl;simp only [oV] at ef;cases hfd:ca.find d.aj with
 | none=>
  have hm:bT d bn ca=uV d bn ca:=by simp only [bT,hfd];rfl
  rw [hm];rw [hfd] at ef z1;simp only [zaI] at ef;obtain⟨K2,u1,u2,u3⟩:=CV M (by rw [t1.base];exact hb) h C d bn hd (r:=H.next) (r':=H.next+1) (by omega) (by(repeat rw [aA (by omega)]);first | exact k0 | exact k1 | exact k2 | rw [ak]) (by(repeat rw [aA (by omega)]);first | exact k0 | exact k1 | exact k2 | rw [ak]);refine⟨K2,?_,u2,t1.trans u3⟩;by_cases hn:d.next=bn
  ·rw [hn] at d7;simp only [Nat.reduceLT,xq_,Po,aG (bF d),d1,ef,z1,d7];exact u1
  ·simp only [Nat.reduceLT,xq_,Po,aG (bF d),d1,ef,z1,d7,hn];exact u1
 | some own=>
  rw [hfd] at ef z1 M;simp only [zaJ,zat] at ef z1 M;by_cases hn:d.next=bn
  ·have hm:bT d bn ca=uV { d with next:=own.fwd } bn ca:=by simp only [bT,hfd];rw [if_pos hn];rfl
   rw [hm];have e0:=M.ld (r:=H.next+1+1) (i:=0) (v:=I own.fwd) (by(repeat rw [aA (by omega)]);first | exact k0 | exact k1 | exact k2 | rw [ak]) rfl;obtain⟨K2,y1,M2,y3⟩:=M.st (by rw [t1.base];exact hb) (r:=H.next) (xs:=d.av) (by(repeat rw [aA (by omega)]);first | exact k0 | exact k1 | exact k2 | rw [ak]) (i:=7) (v:=I own.fwd) (by simp [bJ.av]) dO;have t2:=t1.trans y3;obtain⟨K3,u1,u2,u3⟩:=CV M2 (by rw [t2.base];exact hb) h C { d with next:=own.fwd } bn hd (r:=H.next) (r':=H.next+1) (by omega) (by rw [ak];rfl) (by(repeat rw [aA (by omega)]);first | exact k0 | exact k1 | exact k2 | rw [ak]);refine⟨K3,?_,u2,t2.trans u3⟩;rw [hn] at d7;simp only [Nat.reduceLT,xq_,Po,aG (bF d),d1,ef,z1,d7,e0,y1];exact u1
  ·have hm:bT d bn ca=uV d bn ca:=by simp only [bT,hfd];rw [if_neg hn];rfl
   rw [hm];obtain⟨K2,u1,u2,u3⟩:=CV M (by rw [t1.base];exact hb) h C d bn hd (r:=H.next) (r':=H.next+1) (by omega) (by(repeat rw [aA (by omega)]);first | exact k0 | exact k1 | exact k2 | rw [ak]) (by(repeat rw [aA (by omega)]);first | exact k0 | exact k1 | exact k2 | rw [ak]);refine⟨K2,?_,u2,t1.trans u3⟩;simp only [Nat.reduceLT,xq_,Po,aG (bF d),d1,ef,z1,d7,hn];exact u1
theorem AP {K:ah}{ls:Lcl}(L:Loc b K g ls)(hb:K.base<=b)(h:g q=some (dn ca))(C:COk ca)(d:bJ)(bn:Int)(hd:d.data.length < 1000000000){r r':Nat}(k0:ls r=some d.av)(k1:ls r'=some zD9):
  ∃K1 H',lda 9 (.ref r 0 0) K=some (.agg d.av,K)/\cl 158 [.agg d.av,I bn,.ref q 0 0] K=some (.agg (bT d bn ca).2.av,K1)/\st 9 (.ref r' 0 0) (.agg (bT d bn ca).2.av) K1=some (aZ,H')/\
   lda 9 (.ref r' 0 0) H'=some (.agg (bT d bn ca).2.av,H')/\Good b H' (upd g q (dn (bT d bn ca).1))/\Step b K H':=by
 obtain⟨K1,a1,a2,a3⟩:=ahT L.good hb (L.obj h) C d bn hd;have M:=L.call h a2;obtain⟨K2,u1,u2,u3,u4⟩:=M.whole (by rw [a3.base];exact hb) k1 (n:=9) (vs:=(bT d bn ca).2.av) rfl rfl (by decide) (bF _);exact⟨K1,K2,L.lda k0 (i:=0) (n:=9) (ys:=d.av) rfl rfl (by decide),a1,u1,u2,u3.out,a3.trans u4⟩
theorem ado(G:Good b H g)(hb:H.base<=b)(h:g q=some (dn ca))(C:COk ca)(d:bJ)(bn:Int)(p:Pkt)(hd:d.data.length < 1000000000)(hp:p.data.length < 1000000000):
  ∃H',cl 115 [.agg d.av,I bn,.ref q 0 0,.agg p.av] H=some (tV (dS d bn ca p),H')/\Good b H' (upd g q (dn (dS d bn ca p).1))/\Step b H H':=by
 refine jY rfl rfl (akD _ _ _ _ _ _) ?_;obtain⟨ls,L,k0,k1,k2,s⟩:=uU G d p;have d0:=L.ld k0 (i:=0) (v:=I d.aO) rfl;have d1:=L.ld k0 (i:=1) (v:=I d.aj) rfl;have dA:=L.lda k0 (i:=0) (n:=9) (ys:=d.av) rfl rfl (by decide);have pA:=L.lda k1 (i:=0) (n:=9) (ys:=p.av) rfl rfl (by decide);have hf:=λH=> Tc H d p;have ez:bd 44 []=some (.agg zD9):=by simp only [xq_,Wn,kE,eu]
 have hbK:(((H.new (.blk 0 44 d.av)).new (.blk 0 112 p.av)).new (.blk 0 44 zD9)).base<=b:=by rw [s.base];exact hb
 obtain⟨Kz,z1,z2,z3,z4⟩:=L.whole hbK k2 (n:=9) (vs:=zD9) rfl rfl (by decide) rfl;have zu:Good b Kz (upd g q (dn ca)):=by rw [fJ h];exact z3.out
 by_cases h1:d.aO≠2∨d.fits p=false
 ·have hm:dS d bn ca p=(ca,.zero,false):=by simp only [dS];rw [if_pos h1];rfl
  rw [hm];refine⟨Kz,?_,zu,s.trans z4⟩;by_cases hk:d.aO=2
  ·have hff:d.fits p=false:=h1.resolve_left (λh=> h hk);rw [hk] at d0;simp only [Nat.reduceLT,xq_,Aj,aG (bF d),aG (aS p),d0,dA,pA,hf,hff,zae,zam,ez,z1,z2,tV,lG]
  ·simp only [Nat.reduceLT,xq_,Aj,aG (bF d),aG (aS p),d0,hk,zam,ez,z1,z2,tV,lG]
 ·have hk:d.aO=2:=Classical.byContradiction λh=> h1 (.inl h);have hff:d.fits p=true:=by cases hx:d.fits p <;> simp_all
  rw [hk] at d0;have ef:=qK L.good (L.obj h) C.len C.dat d.aj;simp only [oV] at ef;have LE:=L.newL (ty:=166) (xs:=zE6) (r:=H.next+1+1+1) rfl (by rw [fE,fE,fE]);have sE:Step b H _:=s.trans (Step.new (.blk 0 166 zE6) L.good.1);obtain⟨KE,x1,x2,M,x4⟩:=LE.whole (by rw [sE.base];exact hb) (r:=H.next+1+1+1) (xs:=zE6) (by(repeat rw [aA (by omega)]);first | exact k0 | exact k1 | exact k2 | rw [ak]) (n:=6) (vs:=((ca.find d.aj).getD .zero).av) rfl rfl (by decide) (kU _);have t1:=sE.trans x4;have d3:=M.ld (r:=H.next) (xs:=d.av) (i:=3) (v:=I d.step) (by(repeat rw [aA (by omega)]);first | exact k0 | exact k1 | exact k2 | rw [ak]) rfl;have hbE:KE.base<=b:=by rw [t1.base];exact hb
  have e5:=M.ld (r:=H.next+1+1+1) (i:=5) (v:=dat ((ca.find d.aj).getD .zero).data) (by(repeat rw [aA (by omega)]);first | exact k0 | exact k1 | exact k2 | rw [ak]) rfl;have hown:((ca.find d.aj).getD .zero).data.length < 1000000000:=by
   cases hx:ca.find d.aj with
   | none=> exact(by decide:([]:List Int).length < 1000000000)
   | some own=> exact C.dat own (zba hx)
  have e2:=λH=> lD H p.data hp;by_cases s1:d.step=1
  ·rw [s1] at d3;have p6:=M.ld (r:=H.next+1) (xs:=p.av) (i:=6) (v:=I p.aT) (by(repeat rw [aA (by omega)]);first | exact k0 | exact k1 | exact k2 | rw [ak]) rfl;have p5:=M.ld (r:=H.next+1) (xs:=p.av) (i:=5) (v:=I p.ptr) (by(repeat rw [aA (by omega)]);first | exact k0 | exact k1 | exact k2 | rw [ak]) rfl;have p8:=M.ld (r:=H.next+1) (xs:=p.av) (i:=8) (v:=dat p.data) (by(repeat rw [aA (by omega)]);first | exact k0 | exact k1 | exact k2 | rw [ak]) rfl;obtain⟨K2,u2,M2,w2⟩:=M.st hbE (r:=H.next) (xs:=d.av) (by(repeat rw [aA (by omega)]);first | exact k0 | exact k1 | exact k2 | rw [ak]) (i:=4) (v:=I p.aT) (by simp [bJ.av]) dO;have t2:=t1.trans w2;obtain⟨K3,u3,M3,w3⟩:=M2.st (by rw [t2.base];exact hb) (r:=H.next) ak (i:=5) (v:=I p.ptr) (by simp [bJ.av]) dO;have t3:=t2.trans w3;obtain⟨K4,u4,M4,w4⟩:=M3.st (by rw [t3.base];exact hb) (r:=H.next) ak (i:=8) (v:=I p.ptr) (by simp [bJ.av]) dO;have t4:=t3.trans w4;obtain⟨K5,u5,M5,w5⟩:=M4.st (by rw [t4.base];exact hb) (r:=H.next) ak (i:=6) (v:=dat p.data) (by simp [bJ.av]) rW;have t5:=t4.trans w5;have c1:∀{β:Type} (k:Option β),ck (bQ (.ref (H.next+1) 0 5)) KE K2 k=k:=λk=> vM (oP u2 (by omega));have c2:∀{β:Type} (k:Option β),ck (bQ (.ref (H.next+1) 0 5)) K2 K3 k=k:=λk=> vM (oP u3 (by omega));cases hx:ca.find d.aj with
   | none=>
    have hm:dS d bn ca p=((bT { d with aT:=p.aT,head:=p.ptr,told:=p.ptr,data:=p.data,next:=p.ptr } bn ca).1,(bT { d with aT:=p.aT,head:=p.ptr,told:=p.ptr,data:=p.data,next:=p.ptr } bn ca).2,true):=by
     simp only [dS,hx];rw [if_neg h1,if_pos s1]
    rw [hm];rw [hx] at ef x1;simp only [zaI] at ef;have n5:=M5.ld (r:=H.next) ak (i:=5) (v:=I p.ptr) rfl;obtain⟨K6,u6,M6,w6⟩:=M5.st (by rw [t5.base];exact hb) (r:=H.next) ak (i:=7) (v:=I p.ptr) (by simp [bJ.av]) dO;have t6:=t5.trans w6;obtain⟨K7,K8,v1,v2,v3,v4,v5,v6⟩:=AP M6 (by rw [t6.base];exact hb) h C { d with aT:=p.aT,head:=p.ptr,told:=p.ptr,data:=p.data,next:=p.ptr } bn hp (r:=H.next) (r':=H.next+1+1) (by rw [ak];rfl) (by(repeat rw [aA (by omega)]);first | exact k0 | exact k1 | exact k2 | rw [ak]);refine⟨K8,?_,v5,t6.trans v6⟩;simp only [Nat.reduceLT,Int.reduceEq,xq_,Aj,aG (bF d),aG (aS p),d0,dA,pA,hf,hff,zae,d1,ef,x1,d3,p6,p5,p8,e2,u2,u3,u4,u5,c1,c2,Ep,n5,u6,v1,v2,v3,v4,tV]
   | some own=>
    have hm:dS d bn ca p=((bT { d with aT:=p.aT,head:=p.ptr,told:=p.ptr,data:=own.data,next:=p.ptr } bn ca).1,(bT { d with aT:=p.aT,head:=p.ptr,told:=p.ptr,data:=own.data,next:=p.ptr } bn ca).2,true):=by
     simp only [dS,hx];rw [if_neg h1,if_pos s1]
    rw [hm];rw [hx] at ef x1 e5;simp only [zaJ,zat] at ef x1 e5;have e5':=M5.ld (r:=H.next+1+1+1) (i:=5) (v:=dat ((ca.find d.aj).getD .zero).data) (by(repeat rw [aA (by omega)]);first | exact k0 | exact k1 | exact k2 | rw [ak]) rfl;rw [hx] at e5';simp only [zat] at e5';obtain⟨K5',u5',M5',w5'⟩:=M5.st (by rw [t5.base];exact hb) (r:=H.next) ak (i:=6) (v:=dat own.data) (by simp [bJ.av]) rW;have t5':=t5.trans w5';have n5:=M5'.ld (r:=H.next) ak (i:=5) (v:=I p.ptr) rfl;obtain⟨K6,u6,M6,w6⟩:=M5'.st (by rw [t5'.base];exact hb) (r:=H.next) ak (i:=7) (v:=I p.ptr) (by simp [bJ.av]) dO;have t6:=t5'.trans w6;obtain⟨K7,K8,v1,v2,v3,v4,v5,v6⟩:=AP M6 (by rw [t6.base];exact hb) h C { d with aT:=p.aT,head:=p.ptr,told:=p.ptr,data:=own.data,next:=p.ptr } bn (C.dat own (zba hx)) (r:=H.next) (r':=H.next+1+1) (by rw [ak];rfl) (by(repeat rw [aA (by omega)]);first | exact k0 | exact k1 | exact k2 | rw [ak]);refine⟨K8,?_,v5,t6.trans v6⟩;simp only [Nat.reduceLT,Int.reduceEq,xq_,Aj,aG (bF d),aG (aS p),d0,dA,pA,hf,hff,zae,d1,ef,x1,d3,p6,p5,p8,e2,u2,u3,u4,u5,c1,c2,e5',u5',Ep,n5,u6,v1,v2,v3,v4,tV]
  ·by_cases s3:d.step=3
   ·rw [s3] at d3;cases hx:ca.find d.aj with
    | none=>
     have hm:dS d bn ca p=((bT { d with data:=p.data,next:=p.ptr } bn ca).1,(bT { d with data:=p.data,next:=p.ptr } bn ca).2,true):=by
      simp only [dS,hx];rw [if_neg h1,if_neg s1,if_pos s3]
     rw [hm];rw [hx] at ef x1;simp only [zaI] at ef;have p8:=M.ld (r:=H.next+1) (xs:=p.av) (i:=8) (v:=dat p.data) (by(repeat rw [aA (by omega)]);first | exact k0 | exact k1 | exact k2 | rw [ak]) rfl;obtain⟨K5,u5,M5,w5⟩:=M.st hbE (r:=H.next) (xs:=d.av) (by(repeat rw [aA (by omega)]);first | exact k0 | exact k1 | exact k2 | rw [ak]) (i:=6) (v:=dat p.data) (by simp [bJ.av]) rW;have t5:=t1.trans w5;have p5:=M5.ld (r:=H.next+1) (xs:=p.av) (i:=5) (v:=I p.ptr) (by(repeat rw [aA (by omega)]);first | exact k0 | exact k1 | exact k2 | rw [ak]) rfl;obtain⟨K6,u6,M6,w6⟩:=M5.st (by rw [t5.base];exact hb) (r:=H.next) ak (i:=7) (v:=I p.ptr) (by simp [bJ.av]) dO;have t6:=t5.trans w6;obtain⟨K7,K8,v1,v2,v3,v4,v5,v6⟩:=AP M6 (by rw [t6.base];exact hb) h C { d with data:=p.data,next:=p.ptr } bn hp (r:=H.next) (r':=H.next+1+1) (by rw [ak];rfl) (by(repeat rw [aA (by omega)]);first | exact k0 | exact k1 | exact k2 | rw [ak]);refine⟨K8,?_,v5,t6.trans v6⟩;simp only [Nat.reduceLT,Int.reduceEq,xq_,Aj,aG (bF d),aG (aS p),d0,dA,pA,hf,hff,zae,zam,d1,ef,x1,d3,p5,p8,e2,u5,Es,u6,v1,v2,v3,v4,tV]
    | some own=>
     have hm:dS d bn ca p=((bT { d with data:=d.data,next:=p.ptr } bn ca).1,(bT { d with data:=d.data,next:=p.ptr } bn ca).2,true):=by
      simp only [dS,hx];rw [if_neg h1,if_neg s1,if_pos s3]
     rw [hm];rw [hx] at ef x1;simp only [zaJ,zat] at ef x1;have p5:=M.ld (r:=H.next+1) (xs:=p.av) (i:=5) (v:=I p.ptr) (by(repeat rw [aA (by omega)]);first | exact k0 | exact k1 | exact k2 | rw [ak]) rfl;obtain⟨K6,u6,M6,w6⟩:=M.st hbE (r:=H.next) (xs:=d.av) (by(repeat rw [aA (by omega)]);first | exact k0 | exact k1 | exact k2 | rw [ak]) (i:=7) (v:=I p.ptr) (by simp [bJ.av]) dO;have t6:=t1.trans w6;obtain⟨K7,K8,v1,v2,v3,v4,v5,v6⟩:=AP M6 (by rw [t6.base];exact hb) h C { d with data:=d.data,next:=p.ptr } bn hd (r:=H.next) (r':=H.next+1+1) (by rw [ak];rfl) (by(repeat rw [aA (by omega)]);first | exact k0 | exact k1 | exact k2 | rw [ak]);refine⟨K8,?_,v5,t6.trans v6⟩;simp only [Nat.reduceLT,Int.reduceEq,xq_,Aj,aG (bF d),aG (aS p),d0,dA,pA,hf,hff,zae,d1,ef,x1,d3,p5,Es,u6,v1,v2,v3,v4,tV]
   ·by_cases s6:d.step=6
    ·have hm:dS d bn ca p=(ca,{ d with step:=0 },true):=by simp only [dS];rw [if_neg h1,if_neg s1,if_neg s3,if_pos s6]
     rw [hm];obtain⟨K1,a1,M1,a3⟩:=M.st hbE (r:=H.next) (xs:=d.av) (by(repeat rw [aA (by omega)]);first | exact k0 | exact k1 | exact k2 | rw [ak]) (i:=3) (v:=I 0) (by simp [bJ.av]) dO;have dB:=M1.lda ak (i:=0) (n:=9) (ys:=({ d with step:=0 }:bJ).av) rfl rfl (by decide);obtain⟨K2,u1,u2,u3,u4⟩:=M1.whole (by rw [a3.base];exact hbE) (r:=H.next+1+1) (xs:=zD9) (by(repeat rw [aA (by omega)]);first | exact k0 | exact k1 | exact k2 | rw [ak]) (n:=9) (vs:=({ d with step:=0 }:bJ).av) rfl rfl (by decide) (bF _);refine⟨K2,?_,by rw [fJ h];exact u3.out,(t1.trans a3).trans u4⟩;rw [s6] at d3;simp only [Nat.reduceLT,Int.reduceEq,xq_,Aj,aG (bF d),aG (aS p),d0,dA,pA,hf,hff,zae,d1,ef,x1,d3,a1,dB,u1,u2,tV]
    ·have hm:dS d bn ca p=(ca,.zero,false):=by simp only [dS];rw [if_neg h1,if_neg s1,if_neg s3,if_neg s6];rfl
     rw [hm];obtain⟨K2,u1,u2,u3,u4⟩:=M.whole hbE (r:=H.next+1+1) (xs:=zD9) (by(repeat rw [aA (by omega)]);first | exact k0 | exact k1 | exact k2 | rw [ak]) (n:=9) (vs:=zD9) rfl rfl (by decide) rfl;refine⟨K2,?_,by rw [fJ h];exact u3.out,t1.trans u4⟩;simp only [Nat.reduceLT,xq_,Aj,aG (bF d),aG (aS p),d0,dA,pA,hf,hff,zae,d1,ef,x1,d3,s1,s3,s6,ez,u1,u2,tV,lG]
end
section
variable {b:Nat}{H:ah}{g:bD}{q:Nat}{ca:Cache}
theorem Loc.ext {K K':ah}{ls:Lcl}(L:Loc b K g ls)(M:Made K K' vP):Loc b K' g ls:=⟨L.good.ext M.next M.same,L.free⟩
theorem amv(G:Good b H g)(hb:H.base<=b)(h:g q=some (dn ca))(C:COk ca)(d:bJ)(head:Int):
  ∃H',cl 160 [.agg d.av,.ref q 0 0,I head] H=some (.agg (gJ d ca head).2.1.av,H')/\Good b H' (upd g q (dn (gJ d ca head).1))/\Step b H H':=by
 refine jY rfl rfl (aln _ _ _ _ _) ?_;have L1:=(Loc.of G).newL (ty:=44) (xs:=d.av) (r:=H.next) (bF d) rfl;have L2:=L1.newL (ty:=44) (xs:=zD9) (r:=H.next+1) rfl (by rw [fE]);have s2:Step b H _:=(Step.new (.blk 0 44 d.av) G.1).trans (Step.new (.blk 0 44 zD9) L1.good.1);have d1:=L2.ld (r:=H.next) (i:=1) (v:=I d.aj) (by(repeat rw [aA (by omega)]);rw [ak]) rfl;obtain⟨K1,a1,a2,a3⟩:=Hl L2.good (by rw [s2.base];exact hb) (L2.obj h) C.len C.dat d.aj;have M1:=L2.call h a2;have t1:=s2.trans a3;obtain⟨K2,u2,M2,w2⟩:=M1.st (by rw [t1.base];exact hb) (r:=H.next) (xs:=d.av) (by(repeat rw [aA (by omega)]);rw [ak]) (i:=3) (v:=I 6) (by simp [bJ.av]) dO;have t2:=t1.trans w2;obtain⟨K3,u3,M3,w3⟩:=M2.st (by rw [t2.base];exact hb) (r:=H.next) ak (i:=4) (v:=I 1) (by simp [bJ.av]) dO;have t3:=t2.trans w3;obtain⟨K4,u4,M4,w4⟩:=M3.st (by rw [t3.base];exact hb) (r:=H.next) ak (i:=5) (v:=I head) (by simp [bJ.av]) dO;have t4:=t3.trans w4;obtain⟨K5,u5,M5,w5⟩:=M4.st (by rw [t4.base];exact hb) (r:=H.next) ak (i:=6) (v:=zN) (by simp [bJ.av]) qC;have t5:=t4.trans w5;have f1:=M5.lda (r:=H.next) ak (i:=0) (n:=9) (ys:=(gJ d ca head).2.1.av) (by simp only [gJ,bJ.av,DN];rfl) rfl (by decide);obtain⟨K7,u7,v7,M7,w7⟩:=M5.whole (by rw [t5.base];exact hb) (r:=H.next+1) (xs:=zD9) (by(repeat rw [aA (by omega)]);rw [ak]) (n:=9) (vs:=(gJ d ca head).2.1.av) rfl rfl (by decide) (bF _);refine⟨K7,?_,M7.out,t5.trans w7⟩;simp only [Nat.reduceLT,xq_,afs,aG (bF d),d1,a1,u2,u3,u4,u5,f1,u7,v7]
abbrev lnk(f bk:Int):List AV:=[I f,I bk]
theorem aaG(H:ah)(f bk:Int):∃H',cl 183 [.agg (lnk f bk)] H=some (B (decide (bk=-1)),H')/\(H.base<=H.next->Made H H' vP):=by
 refine⟨H.new (.blk 0 164 (lnk f bk)),bI rfl rfl (alJ _ _ _ ?_),λhb=> (Made.refl hb).new _⟩;simp only [Nat.reduceLT,Int.reduceNeg,xq_,hq_,afH,aG]
theorem ahU(H:ah)(f bk:Int):∃H',cl 192 [.agg (lnk f bk)] H=some (B (decide (f=-1)),H')/\(H.base<=H.next->Made H H' vP):=by
 refine⟨H.new (.blk 0 164 (lnk f bk)),bI rfl rfl (alQ _ _ _ ?_),λhb=> (Made.refl hb).new _⟩;simp only [Nat.reduceLT,Int.reduceNeg,xq_,hq_,afJ,aG]
theorem ahV(H:ah)(hb0:H.base<=H.next)(f bk:Int):∃H',cl 182 [.agg (lnk f bk)] H=some (B (decide (bk=-1/\f=-1)),H')/\Made H H' vP:=by
 let H1:=H.new (.blk 0 164 (lnk f bk));have g1:H1.get H.next=.blk 0 164 (lnk f bk):=bC rfl
 have l1:lda 2 (.ref H.next 0 0) H1=some (.agg (lnk f bk),H1):=(gZ (off:=0) (n:=2) g1 (zac 2)).trans rfl;obtain⟨H2,e1,M1⟩:=aaG H1 f bk;by_cases h:bk=-1
 ·have hd:decide (bk=-1)=true:=decide_eq_true h;rw [hd] at e1;have hb:H1.base<=H1.next:=by simp only [H1,jC,fE];omega
  have M:=M1 hb;have l2:lda 2 (.ref H.next 0 0) H2=some (.agg (lnk f bk),H2):=(gZ (g:=0) (ty:=164) (off:=0) (n:=2) (xs:=lnk f bk) (by rw [M.same _ (by simp only [H1,fE];omega)];exact g1) (zac 2)).trans rfl;obtain⟨H3,e2,M2⟩:=ahU H2 f bk;have M3:=M2 (by rw [M.base];exact zax hb M.next);have M4:Made H1 H3 vP:=⟨zax M.next M3.next,M3.base.trans M.base,λr hr=> by rw [M3.same r (zay hr M.next),M.same r hr],Good.empty' (zax M.next M3.next)⟩
  refine⟨H3,bI rfl rfl (afG _ _ _ ?_),M4.GV⟩;simp only [H1] at l1 e1;have hda:decide (bk=-1/\f=-1)=decide (f=-1):=by simp [h]
  rw [hda];simp only [Nat.reduceLT,Int.reduceNeg,xq_,ZC,aG (show(lnk f bk).all AV.aQ=true from rfl),l1,e1,l2,e2]
 ·have hd:decide (bk=-1)=false:=decide_eq_false h;rw [hd] at e1;have hda:decide (bk=-1/\f=-1)=false:=by simp [h]
  refine⟨H2,bI rfl rfl (afG _ _ _ ?_),(M1 (by simp only [H1,jC,fE];omega)).GV⟩;simp only [H1] at l1 e1;rw [hda];simp only [Nat.reduceLT,xq_,ZC,aG (show(lnk f bk).all AV.aQ=true from rfl),l1,e1]
end
section
variable {b:Nat}{H:ah}{g:bD}{q:Nat}{ca:Cache}
def kY(d:bJ)(c:Cache)(p:Pkt):Cache × bJ:=
 let d:bJ:={ d with aT:=p.aT,head:=p.ptr,told:=p.ptr,data:=[],step:=6 }
 match c.find d.aj with
 | none=> (c,d)
 | some e=>
  if e.back=-1/\e.fwd=-1 then(c.drop d.aj,{ d with aT:=0,head:=-1,data:=if e.cO then e.data else [] })
  else if e.back=-1 then(c,{ d with head:=-1,next:=e.fwd,step:=5 })
  else(c,{ d with head:=e.back,next:=e.fwd,step:=4 })
theorem Xa(G:Good b H g)(hb:H.base<=b)(h:g q=some (dn ca))(C:COk ca)(d:bJ)(p:Pkt):
  ∃H',cl 159 [.agg d.av,.ref q 0 0,.agg p.av] H=some (.agg (kY d ca p).2.av,H')/\Good b H' (upd g q (dn (kY d ca p).1))/\Step b H H':=by
 refine jY rfl rfl (alm _ _ _ _ _) ?_;obtain⟨ls,L,k0,k1,k2,s⟩:=uU G d p;have hbK:(((H.new (.blk 0 44 d.av)).new (.blk 0 112 p.av)).new (.blk 0 44 zD9)).base<=b:=by rw [s.base];exact hb
 have p6:=L.ld k1 (i:=6) (v:=I p.aT) rfl;have p5:=L.ld k1 (i:=5) (v:=I p.ptr) rfl;obtain⟨K2,u2,M2,w2⟩:=L.st hbK (r:=H.next) k0 (i:=4) (v:=I p.aT) (by simp [bJ.av]) dO;have t2:=s.trans w2;obtain⟨K3,u3,M3,w3⟩:=M2.st (by rw [t2.base];exact hb) (r:=H.next) ak (i:=5) (v:=I p.ptr) (by simp [bJ.av]) dO;have t3:=t2.trans w3;obtain⟨K4,u4,M4,w4⟩:=M3.st (by rw [t3.base];exact hb) (r:=H.next) ak (i:=8) (v:=I p.ptr) (by simp [bJ.av]) dO;have t4:=t3.trans w4;obtain⟨K5,u5,M5,w5⟩:=M4.st (by rw [t4.base];exact hb) (r:=H.next) ak (i:=6) (v:=zN) (by simp [bJ.av]) qC;have t5:=t4.trans w5;have c1:∀{β:Type} (k:Option β),ck (bQ (.ref (H.next+1) 0 5)) (((H.new (.blk 0 44 d.av)).new (.blk 0 112 p.av)).new (.blk 0 44 zD9)) K2 k=k:=λk=> vM (oP u2 (by omega));have c2:∀{β:Type} (k:Option β),ck (bQ (.ref (H.next+1) 0 5)) K2 K3 k=k:=λk=> vM (oP u3 (by omega));obtain⟨K6,u6,M6,w6⟩:=M5.st (by rw [t5.base];exact hb) (r:=H.next) ak (i:=3) (v:=I 6) (by simp [bJ.av]) dO;have t6:=t5.trans w6;let d2:bJ:={ d with aT:=p.aT,head:=p.ptr,told:=p.ptr,data:=[],step:=6 }
 have e2:(((((d.av.set 4 (I p.aT)).set 5 (I p.ptr)).set 8 (I p.ptr)).set 6 zN).set 3 (I 6))=d2.av:=by simp only [d2,bJ.av,DN];rfl
 rw [e2] at M6;have k0':∀(l:Lcl) (x:List AV),iE l H.next x H.next=some x:=λ_ _=> ak
 have d1:=M6.ld (r:=H.next) ak (i:=1) (v:=I d.aj) rfl;have ef:=qK M6.good (M6.obj h) C.len C.dat d.aj;simp only [oV] at ef;have LE:=M6.newL (ty:=166) (xs:=zE6) (r:=K6.next) rfl rfl;have z2:iE (iE (iE (iE (iE ls H.next (d.av.set 4 (I p.aT))) H.next ((d.av.set 4 (I p.aT)).set 5 (I p.ptr))) H.next (((d.av.set 4 (I p.aT)).set 5 (I p.ptr)).set 8 (I p.ptr))) H.next ((((d.av.set 4 (I p.aT)).set 5 (I p.ptr)).set 8 (I p.ptr)).set 6 zN)) H.next d2.av (H.next+1+1)=some zD9:=by
  rw [aA (by omega),aA (by omega),aA (by omega),aA (by omega),aA (by omega)];exact k2
 have n6:H.next+1+1 < K6.next:=M6.good.lt (pO (g:=g) z2)
 obtain⟨KE,x1,x2,ME,x4⟩:=LE.whole (by rw [jC,t6.base];exact hb) (r:=K6.next) ak (n:=6) (vs:=((ca.find d.aj).getD .zero).av) rfl rfl (by decide) (kU _);have tE:=(t6.trans (Step.new (.blk 0 166 zE6) M6.good.1)).trans x4;have hbE:KE.base<=b:=by rw [tE.base];exact hb
 generalize hls:iE (iE (iE (iE (iE (iE (iE ls H.next (d.av.set 4 (I p.aT))) H.next ((d.av.set 4 (I p.aT)).set 5 (I p.ptr))) H.next (((d.av.set 4 (I p.aT)).set 5 (I p.ptr)).set 8 (I p.ptr))) H.next ((((d.av.set 4 (I p.aT)).set 5 (I p.ptr)).set 8 (I p.ptr)).set 6 zN)) H.next d2.av) K6.next zE6) K6.next ((ca.find d.aj).getD .zero).av=lz at ME
 have y0:lz H.next=some d2.av:=by rw [<-hls,aA (by omega),aA (by omega),ak]
 have y2:lz (H.next+1+1)=some zD9:=by rw [<-hls,aA (by omega),aA (by omega)];exact z2
 have y3:lz K6.next=some ((ca.find d.aj).getD .zero).av:=by rw [<-hls,ak]
 have fin:∀{Kx:ah} {lx:Lcl} {gx:bD} (dx:bJ),Loc b Kx gx lx->Kx.base<=b->lx H.next=some dx.av->lx (H.next+1+1)=some zD9->∃H',lda 9 (.ref H.next 0 0) Kx=some (.agg dx.av,Kx)/\st 9 (.ref (H.next+1+1) 0 0) (.agg dx.av) Kx=some (aZ,H')/\lda 9 (.ref (H.next+1+1) 0 0) H'=some (.agg dx.av,H')/\Good b H' gx/\Step b Kx H':=λdx Lx hbx q0 q2=> by
  obtain⟨K',v1,v2,v3,v4⟩:=Lx.whole hbx q2 (n:=9) (vs:=dx.av) rfl rfl (by decide) (bF _);exact⟨K',Lx.lda q0 (i:=0) (n:=9) (ys:=dx.av) rfl rfl (by decide),v1,v2,v3.out,v4⟩
 cases hfd:ca.find d.aj with
 | none=>
  have hm:kY d ca p=(ca,d2):=by simp only [kY,hfd,d2]
  rw [hm];rw [hfd] at ef x1;simp only [zaI] at ef;obtain⟨H',f1,f2,f3,f4,f5⟩:=fin d2 ME hbE y0 y2;refine⟨H',?_,by rw [fJ h];exact f4,tE.trans f5⟩;simp only [Nat.reduceLT,Int.reduceNeg,xq_,JE,aG (bF d),aG (aS p),p6,p5,u2,u3,u4,u5,c1,c2,u6,d1,ef,x1,zam,f1,f2,f3]
 | some e=>
  rw [hfd] at ef x1 y3;simp only [zaJ,zat] at ef x1 y3;have l2:=ME.lda y3 (i:=0) (n:=2) (ys:=lnk e.fwd e.back) rfl rfl (by decide);obtain⟨KO,o1,o2⟩:=ahV KE (zax hbE ME.good.1) e.fwd e.back;have MO:=ME.ext o2;have hbO:KO.base<=b:=by rw [o2.base];exact hbE
  have tO:Step b H KO:=tE.trans ⟨o2.base,o2.next,λr hr=> o2.same r (zay hr ME.good.1)⟩;by_cases h1:e.back=-1/\e.fwd=-1
  ·have dl:=MO.ld y0 (i:=1) (v:=I d.aj) rfl;obtain⟨K7,a1,a2,a3⟩:=Hl MO.good hbO (MO.obj h) C.len C.dat d.aj;have M7:=MO.call h a2;have t7:=tO.trans a3;obtain⟨K8,u8,M8,w8⟩:=M7.st (by rw [t7.base];exact hb) y0 (i:=4) (v:=I 0) (by simp [bJ.av]) dO;have t8:=t7.trans w8;obtain⟨K9,u9,M9,w9⟩:=M8.st (by rw [t8.base];exact hb) (r:=H.next) ak (i:=5) (v:=I (-1)) (by simp [bJ.av]) dO;have t9:=t8.trans w9;have y3':iE (iE lz H.next (d2.av.set 4 (I 0))) H.next ((d2.av.set 4 (I 0)).set 5 (I (-1))) K6.next=some e.av:=by rw [aA (by omega),aA (by omega)];exact y3
   have y2':iE (iE lz H.next (d2.av.set 4 (I 0))) H.next ((d2.av.set 4 (I 0)).set 5 (I (-1))) (H.next+1+1)=some zD9:=by rw [aA (by omega),aA (by omega)];exact y2
   have ed:=M9.ld y3' (i:=4) (v:=B e.cO) rfl;rw [decide_eq_true h1] at o1;cases hdy:e.cO with
   | false=>
    have hm:kY d ca p=(ca.drop d.aj,{ d2 with aT:=0,head:=-1,data:=[] }):=by
     simp only [kY,hfd,d2];rw [if_pos h1,hdy];rfl
    rw [hm];rw [hdy] at ed;obtain⟨H',f1,f2,f3,f4,f5⟩:=fin { d2 with aT:=0,head:=-1,data:=[] } M9 (by rw [t9.base];exact hb) (by rw [ak];rfl) y2';refine⟨H',?_,f4,t9.trans f5⟩;simp only [Nat.reduceLT,Int.reduceNeg,xq_,JE,rG,aG (bF d),aG (aS p),p6,p5,u2,u3,u4,u5,c1,c2,u6,d1,ef,x1,zae,l2,o1,dl,a1,u8,u9,ed,f1,f2,f3]
   | true=>
    have hm:kY d ca p=(ca.drop d.aj,{ d2 with aT:=0,head:=-1,data:=e.data }):=by
     simp only [kY,hfd,d2];rw [if_pos h1,hdy];rfl
    rw [hm];rw [hdy] at ed;have ex:=M9.ld y3' (i:=5) (v:=dat e.data) rfl;obtain⟨K10,u10,M10,w10⟩:=M9.st (by rw [t9.base];exact hb) (r:=H.next) ak (i:=6) (v:=dat e.data) (by simp [bJ.av]) rW;have t10:=t9.trans w10;obtain⟨H',f1,f2,f3,f4,f5⟩:=fin { d2 with aT:=0,head:=-1,data:=e.data } M10 (by rw [t10.base];exact hb) (by rw [ak];rfl) (by rw [aA (by omega)];exact y2');refine⟨H',?_,f4,t10.trans f5⟩;simp only [Nat.reduceLT,Int.reduceNeg,xq_,JE,rG,aG (bF d),aG (aS p),p6,p5,u2,u3,u4,u5,c1,c2,u6,d1,ef,x1,zae,l2,o1,dl,a1,u8,u9,ed,ex,u10,f1,f2,f3]
  ·have l2':=MO.lda y3 (i:=0) (n:=2) (ys:=lnk e.fwd e.back) rfl rfl (by decide);obtain⟨KH,q1,q2'⟩:=aaG KO e.fwd e.back;have q2:=q2' (zax hbO MO.good.1);have MH:=MO.ext q2;have hbH:KH.base<=b:=by rw [q2.base];exact hbO
   have tH:Step b H KH:=tO.trans ⟨q2.base,q2.next,λr hr=> q2.same r (zay hr MO.good.1)⟩;rw [decide_eq_false h1] at o1;have g0:=MH.ld y3 (i:=0) (v:=I e.fwd) rfl;have g1:=MH.ld y3 (i:=1) (v:=I e.back) rfl;by_cases h2:e.back=-1
   ·have hm:kY d ca p=(ca,{ d2 with head:=-1,next:=e.fwd,step:=5 }):=by
     simp only [kY,hfd,d2];rw [if_neg h1,if_pos h2]
    rw [hm];rw [decide_eq_true h2] at q1;obtain⟨K8,u8,M8,w8⟩:=MH.st hbH y0 (i:=5) (v:=I (-1)) (by simp [bJ.av]) dO;have t8:=tH.trans w8;obtain⟨K9,u9,M9,w9⟩:=M8.st (by rw [t8.base];exact hb) (r:=H.next) ak (i:=7) (v:=I e.fwd) (by simp [bJ.av]) dO;have t9:=t8.trans w9;obtain⟨K10,u10,M10,w10⟩:=M9.st (by rw [t9.base];exact hb) (r:=H.next) ak (i:=3) (v:=I 5) (by simp [bJ.av]) dO;have t10:=t9.trans w10;have c3:∀{β:Type} (k:Option β),ck (bQ (.ref K6.next 0 0)) KH K8 k=k:=λk=> vM (oP u8 (by omega));obtain⟨H',f1,f2,f3,f4,f5⟩:=fin { d2 with head:=-1,next:=e.fwd,step:=5 } M10 (by rw [t10.base];exact hb) (by rw [ak];rfl) (by rw [aA (by omega),aA (by omega),aA (by omega)];exact y2);refine⟨H',?_,by rw [fJ h];exact f4,t10.trans f5⟩;simp only [Nat.reduceLT,Int.reduceNeg,xq_,JE,rG,aG (bF d),aG (aS p),p6,p5,u2,u3,u4,u5,c1,c2,u6,d1,ef,x1,zae,l2,o1,l2',q1,g0,u8,u9,u10,c3,f1,f2,f3]
   ·have hm:kY d ca p=(ca,{ d2 with head:=e.back,next:=e.fwd,step:=4 }):=by
     simp only [kY,hfd,d2];rw [if_neg h1,if_neg h2]
    rw [hm];rw [decide_eq_false h2] at q1;obtain⟨K8,u8,M8,w8⟩:=MH.st hbH y0 (i:=5) (v:=I e.back) (by simp [bJ.av]) dO;have t8:=tH.trans w8;obtain⟨K9,u9,M9,w9⟩:=M8.st (by rw [t8.base];exact hb) (r:=H.next) ak (i:=7) (v:=I e.fwd) (by simp [bJ.av]) dO;have t9:=t8.trans w9;obtain⟨K10,u10,M10,w10⟩:=M9.st (by rw [t9.base];exact hb) (r:=H.next) ak (i:=3) (v:=I 4) (by simp [bJ.av]) dO;have t10:=t9.trans w10;have c3:∀{β:Type} (k:Option β),ck (bQ (.ref K6.next 0 0)) KH K8 k=k:=λk=> vM (oP u8 (by omega));obtain⟨H',f1,f2,f3,f4,f5⟩:=fin { d2 with head:=e.back,next:=e.fwd,step:=4 } M10 (by rw [t10.base];exact hb) (by rw [ak];rfl) (by rw [aA (by omega),aA (by omega),aA (by omega)];exact y2);refine⟨H',?_,by rw [fJ h];exact f4,t10.trans f5⟩;simp only [Nat.reduceLT,Int.reduceNeg,xq_,JE,rG,aG (bF d),aG (aS p),p6,p5,u2,u3,u4,u5,c1,c2,u6,d1,ef,x1,zae,l2,o1,l2',q1,g0,g1,u8,u9,u10,c3,f1,f2,f3]
end
section
variable {b:Nat}{H:ah}{g:bD}{q:Nat}{ca:Cache}
theorem ahW(G:Good b H g)(hb:H.base<=b)(h:g q=some (dn ca))(C:COk ca)(d:bJ)(p:Pkt)(nd:Int):
  ∃H',cl 116 [.agg d.av,I nd,.ref q 0 0,.agg p.av] H=some (tV (eF d ca p),H')/\Good b H' (upd g q (dn (eF d ca p).1))/\Step b H H':=by
 refine jY rfl rfl (akE _ _ _ _ _ _) ?_;obtain⟨ls,L,k0,k1,k2,s⟩:=uU G d p;have d0:=L.ld k0 (i:=0) (v:=I d.aO) rfl;have d3:=L.ld k0 (i:=3) (v:=I d.step) rfl;have dA:=L.lda k0 (i:=0) (n:=9) (ys:=d.av) rfl rfl (by decide);have pA:=L.lda k1 (i:=0) (n:=9) (ys:=p.av) rfl rfl (by decide);have hf:=λH=> Tc H d p;have ez:bd 44 []=some (.agg zD9):=by simp only [xq_,Wn,kE,eu]
 have hbK:(((H.new (.blk 0 44 d.av)).new (.blk 0 112 p.av)).new (.blk 0 44 zD9)).base<=b:=by rw [s.base];exact hb
 obtain⟨Kz,z1,z2,z3,z4⟩:=L.whole hbK k2 (n:=9) (vs:=zD9) rfl rfl (by decide) rfl;have zu:Good b Kz (upd g q (dn ca)):=by rw [fJ h];exact z3.out
 have outs:∀head,∃K1 K2,cl 160 [.agg d.av,.ref q 0 0,I head] (((H.new (.blk 0 44 d.av)).new (.blk 0 112 p.av)).new (.blk 0 44 zD9))=some (.agg (gJ d ca head).2.1.av,K1)/\
   st 9 (.ref (H.next+1+1) 0 0) (.agg (gJ d ca head).2.1.av) K1=some (aZ,K2)/\lda 9 (.ref (H.next+1+1) 0 0) K2=some (.agg (gJ d ca head).2.1.av,K2)/\Good b K2 (upd g q (dn (gJ d ca head).1))/\Step b H K2:=λhead=> by
  obtain⟨K1,a1,a2,a3⟩:=amv L.good hbK (L.obj h) C d head;have M:=L.call h a2;obtain⟨K2,u1,u2,u3,u4⟩:=M.whole (by rw [a3.base];exact hbK) k2 (n:=9) (vs:=(gJ d ca head).2.1.av) rfl rfl (by decide) (bF _);exact⟨K1,K2,a1,u1,u2,u3.out,(s.trans a3).trans u4⟩
 have steps:∀k:Int,∃K1 K2,st 1 (.ref H.next 0 3) (I k) (((H.new (.blk 0 44 d.av)).new (.blk 0 112 p.av)).new (.blk 0 44 zD9))=some (aZ,K1)/\lda 9 (.ref H.next 0 0) K1=some (.agg ({ d with step:=k }:bJ).av,K1)/\
   st 9 (.ref (H.next+1+1) 0 0) (.agg ({ d with step:=k }:bJ).av) K1=some (aZ,K2)/\lda 9 (.ref (H.next+1+1) 0 0) K2=some (.agg ({ d with step:=k }:bJ).av,K2)/\Good b K2 (upd g q (dn ca))/\Step b H K2:=λk=> by
  obtain⟨K1,a1,M,a3⟩:=L.st hbK k0 (i:=3) (v:=I k) (by simp [bJ.av]) dO;have k2':iE ls H.next (d.av.set 3 (I k)) (H.next+1+1)=some zD9:=by rw [aA (by omega)];exact k2
  have dB:=M.lda ak (i:=0) (n:=9) (ys:=({ d with step:=k }:bJ).av) rfl rfl (by decide);obtain⟨K2,u1,u2,u3,u4⟩:=M.whole (by rw [a3.base];exact hbK) k2' (n:=9) (vs:=({ d with step:=k }:bJ).av) rfl rfl (by decide) (bF _);exact⟨K1,K2,a1,dB,u1,u2,by rw [fJ h];exact u3.out,(s.trans a3).trans u4⟩
 have d7:=L.ld k0 (i:=7) (v:=I d.next) rfl;have d5:=L.ld k0 (i:=5) (v:=I d.head) rfl;have d8:=L.ld k0 (i:=8) (v:=I d.told) rfl;by_cases h1:d.aO≠3∨d.fits p=false
 ·have hm:eF d ca p=(ca,.zero,false):=by simp only [eF];rw [if_pos h1];rfl
  rw [hm];refine⟨Kz,?_,zu,s.trans z4⟩;by_cases hk:d.aO=3
  ·have hff:d.fits p=false:=h1.resolve_left (λh=> h hk);rw [hk] at d0;simp only [Nat.reduceLT,Int.reduceNeg,xq_,yC,aG (bF d),aG (aS p),d0,dA,pA,hf,hff,zae,zam,ez,z1,z2,tV,lG]
  ·simp only [Nat.reduceLT,Int.reduceNeg,xq_,yC,aG (bF d),aG (aS p),d0,hk,zam,ez,z1,z2,tV,lG]
 ·have hk:d.aO=3:=Classical.byContradiction λh=> h1 (.inl h);have hff:d.fits p=true:=by cases hx:d.fits p <;> simp_all
  rw [hk] at d0;by_cases s1:d.step=1
  ·have hm:eF d ca p=((kY d ca p).1,(kY d ca p).2,true):=by
    simp only [eF,kY];rw [if_neg h1,if_pos s1];cases ca.find d.aj with
    | none=> rfl
    | some e=>
     simp only;split
     ·rfl
     ·split <;> rfl
   rw [hm];rw [s1] at d3;obtain⟨K1,a1,a2,a3⟩:=Xa L.good hbK (L.obj h) C d p;have M:=L.call h a2;obtain⟨K2,u1,u2,u3,u4⟩:=M.whole (by rw [a3.base];exact hbK) k2 (n:=9) (vs:=(kY d ca p).2.av) rfl rfl (by decide) (bF _);refine⟨K2,?_,u3.out,(s.trans a3).trans u4⟩;simp only [Nat.reduceLT,Int.reduceEq,Int.reduceNeg,xq_,yC,aG (bF d),aG (aS p),d0,dA,pA,hf,hff,zae,d3,a1,u1,u2,tV]
  ·by_cases s4:d.step=4
   ·rw [s4] at d3;by_cases hn:d.next=-1
    ·have hm:eF d ca p=gJ d ca d.told:=by simp only [eF];rw [if_neg h1,if_neg s1,if_pos s4,if_pos hn]
     rw [hm];obtain⟨K1,K2,a1,u1,u2,u3,u4⟩:=outs d.told;refine⟨K2,?_,u3,u4⟩;have ht:(gJ d ca d.told).2.2=true:=rfl;rw [hn] at d7;simp only [Nat.reduceLT,Int.reduceEq,Int.reduceNeg,xq_,yC,aG (bF d),aG (aS p),d0,dA,pA,hf,hff,zae,d3,d7,d8,a1,u1,u2,tV,ht]
    ·have hm:eF d ca p=(ca,{ d with step:=5 },true):=by simp only [eF];rw [if_neg h1,if_neg s1,if_pos s4,if_neg hn]
     rw [hm];obtain⟨K1,K2,a1,dB,u1,u2,u3,u4⟩:=steps 5;refine⟨K2,?_,u3,u4⟩;simp only [Nat.reduceLT,Int.reduceEq,Int.reduceNeg,xq_,yC,aG (bF d),aG (aS p),d0,dA,pA,hf,hff,zae,d3,d7,hn,a1,dB,u1,u2,tV]
   ·by_cases s5:d.step=5
    ·rw [s5] at d3;by_cases hn:d.head=-1
     ·have hm:eF d ca p=gJ d ca d.next:=by simp only [eF];rw [if_neg h1,if_neg s1,if_neg s4,if_pos s5,if_pos hn]
      rw [hm];obtain⟨K1,K2,a1,u1,u2,u3,u4⟩:=outs d.next
      refine⟨K2,?_,u3,u4⟩;have ht:(gJ d ca d.next).2.2=true:=rfl;rw [hn] at d5;simp only [Nat.reduceLT,Int.reduceEq,Int.reduceNeg,xq_,yC,aG (bF d),aG (aS p),d0,dA,pA,hf,hff,zae,d3,d5,d7,a1,u1,u2,tV,ht]
     ·have hm:eF d ca p=gJ d ca d.told:=by simp only [eF];rw [if_neg h1,if_neg s1,if_neg s4,if_pos s5,if_neg hn]
      rw [hm];obtain⟨K1,K2,a1,u1,u2,u3,u4⟩:=outs d.told;refine⟨K2,?_,u3,u4⟩;have ht:(gJ d ca d.told).2.2=true:=rfl;simp only [Nat.reduceLT,Int.reduceEq,Int.reduceNeg,xq_,yC,aG (bF d),aG (aS p),d0,dA,pA,hf,hff,zae,d3,d5,hn,d8,a1,u1,u2,tV,ht]
    ·by_cases s6:d.step=6
     ·have hm:eF d ca p=(ca,{ d with step:=0 },true):=by simp only [eF];rw [if_neg h1,if_neg s1,if_neg s4,if_neg s5,if_pos s6]
      rw [hm];obtain⟨K1,K2,a1,dB,u1,u2,u3,u4⟩:=steps 0;refine⟨K2,?_,u3,u4⟩;rw [s6] at d3;simp only [Nat.reduceLT,Int.reduceEq,Int.reduceNeg,xq_,yC,aG (bF d),aG (aS p),d0,dA,pA,hf,hff,zae,d3,a1,dB,u1,u2,tV]
     ·have hm:eF d ca p=(ca,.zero,false):=by simp only [eF];rw [if_neg h1,if_neg s1,if_neg s4,if_neg s5,if_neg s6];rfl
      rw [hm];refine⟨Kz,?_,zu,s.trans z4⟩;simp only [Nat.reduceLT,Int.reduceNeg,xq_,yC,aG (bF d),aG (aS p),d0,dA,pA,hf,hff,zae,d3,s1,s4,s5,s6,ez,z1,z2,tV,lG]
end
section
variable {b:Nat}{H:ah}{g:bD}{q:Nat}
theorem Qj(G:Good b H g)(hb:H.base<=b){l:List Evn}(h:g q=some (jG l))(hl:l.length < 1000000)(e:Evn):
  ∃x x' H1 H2,ld (.ref q 0 0) H=some (x,H)/\app 85 4 32 x (.sl H.next 0 0 4 1 1 true) (H.new (.blk 0 85 e.av))=some (x',H1)/\st 1 (.ref q 0 0) x' H1=some (aZ,H2)/\Good b H2 (upd g q (jG (l++[e])))/\Step b H H2:=by
 obtain⟨x,hx,c⟩:=G.seq h (i:=0) rfl;obtain⟨x',H1,H2,a1,a2,a3,a4⟩:=(G.new (.blk 0 85 e.av)).append (e:=85) (by_:=32) (n:=l.length) (by rw [jC];exact hb) h (i:=0) rfl (by decide) (dI BH l) (c.new _) (nO (ex:=true) (n:=1) (m:=4) (l:=e.av) rfl) (Gh e) (by unfold most;omega) (by unfold most;omega);refine⟨x,x',H1,H2,hx,a1,a2,?_,(Step.new _ G.1).trans a4⟩;have:jG (l++[e])=(jG l).set 0 (.seq 4 (l.flatMap Evn.av++e.av)):=by simp [jG]
 rw [this];exact a3
theorem Xb(G:Good b H g)(hb:H.base<=b){l:List Evn}(h:g q=some (jG l))(hl:l.length < 1000000)(bn idx:Int):
  ∃H',cl 85 [.ref q 0 0,I bn,I idx] H=some (.tup [],H')/\Good b H' (upd g q (jG (l++[⟨bn,idx,false,0⟩])))/\Step b H H':=by
 obtain⟨x,x',H1,H2,a0,a1,a2,a3,a4⟩:=Qj G hb h hl ⟨bn,idx,false,0⟩;refine⟨H2,bI rfl rfl (aoL _ _ _ _ _ ?_),a3,a4⟩;have ed:bd 85 [(0,I bn),(1,I idx)]=some (.agg (Evn.mk bn idx false 0).av):=by
  simp only [xq_,ai6,kE,gX,agE,Evn.av];rfl
 simp only [xq_,ako,a0,ed,aiZ,zbp,Nat.reduceLeDiff,kV (m:=4) (z:=[zI,zI,zB,zI]) (v:=.agg (Evn.mk bn idx false 0).av) rfl rfl (Gh _),fZ,a1,a2]
theorem adp(G:Good b H g)(hb:H.base<=b){l:List Evn}(h:g q=some (jG l))(hl:l.length < 1000000)(bn idx v:Int):
  ∃H',cl 118 [.ref q 0 0,I bn,I idx,I v] H=some (.tup [],H')/\Good b H' (upd g q (jG (l++[⟨bn,idx,true,v⟩])))/\Step b H H':=by
 obtain⟨x,x',H1,H2,a0,a1,a2,a3,a4⟩:=Qj G hb h hl ⟨bn,idx,true,v⟩;refine⟨H2,bI rfl rfl (akF _ _ _ _ _ _ ?_),a3,a4⟩;have ed:bd 85 [(0,I bn),(1,I idx),(2,B true),(3,I v)]=some (.agg (Evn.mk bn idx true v).av):=by
  simp only [xq_,ai6,kE,gX,agE,Evn.av];rfl
 simp only [xq_,ae2,a0,ed,aiZ,zbp,Nat.reduceLeDiff,kV (m:=4) (z:=[zI,zI,zB,zI]) (v:=.agg (Evn.mk bn idx true v).av) rfl rfl (Gh _),fZ,a1,a2]
end
section
variable {b:Nat}{H:ah}{g:bD}{q:Nat}
theorem aaH(G:Good b H g)(hb:H.base<=b){p:Proc}(h:g q=some (qR p))(h1:p.ops.length < 1000)(h2:p.bf.length < 1000)(hv:p.bf.length<=p.ops.length):
  ∃v H',cl 84 [.ref q 0 0] H=some (v,H')/\Good b H' (upd g q (qR p.zX))/\Step b H H':=by
 have l2:=G.load h (i:=2) (x:=B p.dU) rfl;have el:=MC G h h1 h2;cases hbg:p.dU with
 | true=>
  have hm:p.zX=p:=by simp [Proc.zX,hbg]
  rw [hm];rw [hbg] at l2;refine⟨I 6,H,bI rfl rfl (ahc _ _ _ ?_),by rw [fJ h];exact G,Step.refl _ _⟩;simp only [xq_,acA,l2]
 | false=>
  rw [hbg] at l2;by_cases hl:p.left=0
  ·have hc:p.cur=none:=by
    unfold Proc.cur;unfold Proc.left at hl;exact zaH (by omega)
   have hm:p.zX=p:=by simp [Proc.zX,hc]
   rw [hm];rw [hl] at el;refine⟨I 6,H,bI rfl rfl (ahc _ _ _ ?_),by rw [fJ h];exact G,Step.refl _ _⟩;simp only [xq_,acA,l2,el]
  ·have hc:p.cur≠none:=by
    unfold Proc.cur;unfold Proc.left at hl;intro hn;have:=List.getElem?_eq_none_iff.1 hn;omega
   have hm:p.zX={ p with dU:=true }:=by
    unfold Proc.zX;rw [if_neg (by rw [hbg];exact λh=> h.elim (λh=> (by cases h)) hc)]
   obtain⟨H',s1,s2,s3,s4⟩:=G.store hb h (i:=2) (v:=B true) (by simp [qR]) Ei;rw [hm];refine⟨I 0,H',bI rfl rfl (ahc _ _ _ ?_),s2,s3⟩;simp only [xq_,acA,l2,el,hl,s1]
theorem ahX(G:Good b H g)(hb:H.base<=b){p:Proc}(h:g q=some (qR p))(h2:p.bf.length < 1000)(v:Int):
  ∃r H',cl 117 [.ref q 0 0,I v] H=some (r,H')/\Good b H' (upd g q (qR (p.yx v)))/\Step b H H':=by
 have l2:=G.load h (i:=2) (x:=B p.dU) rfl;cases hbg:p.dU with
 | false=>
  have hm:p.yx v=p:=by simp [Proc.yx,hbg]
  rw [hm];rw [hbg] at l2;refine⟨I 6,H,bI rfl rfl (ae1 _ _ _ _ ?_),by rw [fJ h];exact G,Step.refl _ _⟩;simp only [xq_,Zk,l2,zam]
 | true=>
  have hm:p.yx v=⟨p.ops,p.bf++[v],false⟩:=by simp [Proc.yx,hbg]
  rw [hm];rw [hbg] at l2;obtain⟨x,hx,c⟩:=G.seq h (i:=1) rfl;obtain⟨x',H1,H2,a1,a2,a3,a4⟩:=(G.new (.blk 0 3 [I v])).append (e:=3) (by_:=8) (n:=p.bf.length) (by rw [jC];exact hb) h (i:=1) rfl (by decide) (by simp) (c.new _) (nO (ex:=true) (n:=1) (m:=1) (l:=[I v]) rfl) rfl (by unfold most;omega) (by unfold most;omega);have h3:upd g q ((qR p).set 1 (.seq 1 (p.bf.map I++[I v]))) q=some ((qR p).set 1 (.seq 1 (p.bf.map I++[I v]))):=aV;obtain⟨H3,s1,s2,s3,s4⟩:=a3.store (by rw [a4.base,jC];exact hb) h3 (i:=2) (v:=B false) (by simp [qR]) Ei;rw [oq] at s2;have eb:∀H,bs 22 1 [(0,I v)] H=some (.sl H.next 0 0 1 1 1 true,H.new (.blk 0 3 [I v])):=λH=> (FZ (by decide)).trans (kV rfl rfl rfl);refine⟨I 0,H3,bI rfl rfl (ae1 _ _ _ _ ?_),?_,((Step.new _ G.1).trans a4).trans s3⟩
  ·simp only [xq_,Zk,l2,zae,hx,eb,a1,a2,s1]
  ·have:qR ⟨p.ops,p.bf++[v],false⟩=((qR p).set 1 (.seq 1 (p.bf.map I++[I v]))).set 2 (.av (B false)):=by simp [qR]
   rw [this];exact s2
end
section
variable {b:Nat}{H:ah}{g:bD}{q:Nat}
theorem ahY(G:Good b H g)(hb:H.base<=b){p:Proc}(h:g q=some (qR p))(h1:p.ops.length < 1000)(h2:p.bf.length < 1000)(hv:p.bf.length<=p.ops.length):
  ∃H',cl 74 [.ref q 0 0] H=some (.tup [.agg p.op.av,I p.idx,B p.cur.isSome],H')/\Good b H' g/\Step b H H':=by
 refine jY rfl rfl (aoA _ _ _) ?_;have L:=(Loc.of G).newL (ty:=53) (xs:=[zI,zI,zI]) (r:=H.next) rfl rfl;have s1:Step b H _:=Step.new (.blk 0 53 [zI,zI,zI]) G.1;have el:=MC L.good (L.obj h) h1 h2;have hbK:(H.new (.blk 0 53 [zI,zI,zI])).base<=b:=by rw [jC];exact hb
 have hz:Opn.zero.av=[zI,zI,zI]:=rfl;by_cases hl:p.left=0
 ·have hc:p.cur=none:=by
   unfold Proc.cur;unfold Proc.left at hl;exact zaH (by omega)
  obtain⟨K,t1,t2,t3,t4⟩:=L.whole hbK ak (n:=3) (vs:=[zI,zI,zI]) rfl rfl (by decide) rfl;have ez:bd 53 []=some (.agg [zI,zI,zI]):=by simp only [xq_,Yy,kE,eu]
  refine⟨K,?_,t3.out,s1.trans t4⟩;rw [hl] at el;have hi:p.idx=0:=by simp [Proc.idx,hc]
  have ho:p.op.av=[zI,zI,zI]:=by simp only [Proc.op,hc,za1];exact hz
  simp only [xq_,ag7,el,ez,t1,t2,hi,ho,hc,zaI]
 ·have hlt:p.bf.length < p.ops.length:=by unfold Proc.left at hl;omega
  obtain⟨o,ho⟩:∃o,p.ops[p.bf.length]?=some o:=⟨_,zab hlt⟩
  have hc:p.cur=some o:=ho;have l0:=L.good.load (L.obj h) (i:=0) (x:=vsl 3 Opn.av p.ops) rfl;obtain⟨x,hx,c⟩:=L.good.seq (L.obj h) (i:=1) rfl;have e2:=(c.is (n:=p.bf.length) (by decide) (by simp)).lnS;have hs:=F9 fG (H.new (.blk 0 53 [zI,zI,zI])) p.ops;have e3:=hs.ix (k:=.i64) (i:=(p.bf.length:Int)) (by omega) (by omega);rw [zaq] at e3;have e4:=pV fG hs ho;obtain⟨K,t1,t2,t3,t4⟩:=L.whole hbK ak (n:=3) (vs:=o.av) rfl (fG _) (by decide) (rX _);have c1:∀{β:Type} (k:Option β),ck (bQ (.ref q 0 1)) (H.new (.blk 0 53 [zI,zI,zI])) K k=k:=λk=> vM (oP t1 (by have:=G.lt h;omega));have c2:∀{β:Type} (k:Option β),ck (bQ x) (H.new (.blk 0 53 [zI,zI,zI])) K k=k:=λk=> acZ λr hr=> by
   refine oP t1 ?_;obtain⟨c0,hx0,cx⟩:=G.seq h (i:=1) rfl;have hxx:x=c0:=by
    have:=(cx.new (.blk 0 53 [zI,zI,zI])).load;rw [this] at hx;simp only [zaa,zad] at hx;exact hx.1.symm
   subst hxx;rcases cx.length (n:=p.bf.length) (by decide) (by simp) with⟨rfl,_⟩ | ⟨r',gg,off,cap,ex,ty,all,rfl,q1,q2,q3,_⟩
   ·cases hr
   ·simp only [bQ,zaa] at hr;omega
  refine⟨K,?_,t3.out,s1.trans t4⟩;have hi:p.idx=p.bf.length:=by simp [Proc.idx,hc]
  have hop:p.op=o:=by simp [Proc.op,hc]
  simp only [xq_,ag7,el,hl,l0,hx,e2,e3,e4,t1,t2,c1,c2,hi,hop,hc,zaJ]
end
theorem amw {β:Type}{s s0:Nat}{H H':ah}{k:Option β}(h:∀r,s<=r->r < s0->H'.get r=H.get r):ckR s s0 H H' k=k:=if_pos h
theorem JY(r gg o:Nat)(v:AV){H H':ah}(h:st 1 (.ref r gg (o+1)) v H=some (aZ,H')):cl 172 [.ref r gg o,v] H=some (.tup [],H'):=by
 refine bI rfl rfl (alA _ _ _ _ ?_);simp only [xq_,afy,h]
theorem aaI(r gg o:Nat)(v:AV){H H':ah}(h:st 1 (.ref r gg o) v H=some (aZ,H')):cl 173 [.ref r gg o,v] H=some (.tup [],H'):=by
 refine bI rfl rfl (alB _ _ _ _ ?_);simp only [xq_,afz,h]
section
variable {b:Nat}{H:ah}{g:bD}{q:Nat}{ca:Cache}
theorem MP {K:ah}{ls:Lcl}(L:Loc b K g ls)(hb:K.base<=b)(h:g q=some (dn ca))(C:COk ca)(e:Ent)(he:e.data.length < 1000000000)(out:Pkt){r4 r6 r8:Nat}(k4:ls r4=some zP9)(k6:ls r6=some e.av)(k8:ls r8=some out.av):
  ∃H',xE cl (.ref q 0 0) (.ref r4 0 0) (.ref r6 0 0) (.ref r8 0 0) K=some (.tup [.agg out.av,I (ca.put e).2],H')/\Good b H' (upd g q (dn (ca.put e).1))/\Step b K H':=by
 have l8:=L.lda k8 (i:=0) (n:=9) (ys:=out.av) rfl rfl (by decide);have l6:=L.lda k6 (i:=0) (n:=6) (ys:=e.av) rfl rfl (by decide);obtain⟨K1,a1,a2,a3⟩:=AO L.good hb (L.obj h) C e he;have M:=L.call h a2;have ck1:∀{β:Type} (k:Option β),ck (bQ (.ref r8 0 0)) K K1 k=k:=λk=> vM (Vu L.good M.good (Vr _ _ _ _ _ a1) (pO k8) (pO k8));obtain⟨K2,u1,u2,u3,u4⟩:=M.whole (by rw [a3.base];exact hb) k4 (n:=9) (vs:=out.av) rfl rfl (by decide) (aS _);refine⟨K2,?_,u3.out,a3.trans u4⟩;simp only [xq_,xE,l8,l6,a1,u1,u2,ck1]
end
section
variable {b:Nat}{H:ah}{g:bD}{q:Nat}{ca:Cache}
def XH(r:Cache × Pkt × Int):AV:=.tup [.agg r.2.1.av,I r.2.2]
theorem Qk(G:Good b H g)(hb:H.base<=b)(h:g q=some (dn ca))(C:COk ca)(p:Pkt)(hx:(!p.ok || decide (p.aO < 3) || decide (6 < p.aO))=true∨ca.find p.aj=none):
  ∃H',cl 130 [.ref q 0 0,.agg p.av] H=some (XH (fK ca p),H')/\Good b H' (upd g q (dn (fK ca p).1))/\Step b H H':=by
 refine jY rfl rfl (ae9 _ _ _ _) ?_;have L1:=(Loc.of G).newL (ty:=112) (xs:=p.av) (r:=H.next) (aS p) rfl;have L2:=L1.newL (ty:=112) (xs:=zP9) (r:=H.next+1) rfl (by rw [fE]);have s2:Step b H _:=(Step.new (.blk 0 112 p.av) G.1).trans (Step.new (.blk 0 112 zP9) L1.good.1);have k0:iE (iE noL H.next p.av) (H.next+1) zP9 H.next=some p.av:=by rw [aA (by omega),ak]
 have p0:=L2.ld k0 (i:=0) (v:=I p.aO) rfl;have p4:=L2.ld k0 (i:=4) (v:=I p.aj) rfl;have pA:=L2.lda k0 (i:=0) (n:=9) (ys:=p.av) rfl rfl (by decide);have ck:=λH=> Aw H p;have ez:bd 112 []=some (.agg zP9):=by simp only [xq_,qA,kE,eu]
 have hbK:((H.new (.blk 0 112 p.av)).new (.blk 0 112 zP9)).base<=b:=by rw [s2.base];exact hb
 by_cases h1:(!p.ok || decide (p.aO < 3) || decide (6 < p.aO))=true
 ·have hm:fK ca p=(ca,.zero,1):=by simp only [fK];rw [if_pos h1]
  rw [hm];obtain⟨K,z1,z2,z3,z4⟩:=L2.whole hbK ak (n:=9) (vs:=zP9) rfl rfl (by decide) rfl;refine⟨K,?_,by rw [fJ h];exact z3.out,s2.trans z4⟩;cases hok:p.ok with
  | false=>
   rw [hok] at ck;simp only [Nat.reduceLT,Int.reduceEq,xq_,Am,aG (aS p),pA,ck,zam,ez,z1,z2,XH,fH]
  | true=>
   rw [hok] at ck h1;by_cases h3:p.aO < 3
   ·simp only [Nat.reduceLT,xq_,Am,aG (aS p),pA,ck,zae,p0,h3,ez,z1,z2,XH,fH]
   ·have h6:6 < p.aO:=by simpa [h3] using h1
    simp only [Nat.reduceLT,xq_,Am,aG (aS p),pA,ck,zae,p0,h3,h6,ez,z1,z2,XH,fH]
 ·have hfn:ca.find p.aj=none:=hx.resolve_left h1;have hm:fK ca p=(ca,.zero,3):=by simp only [fK,hfn];rw [if_neg h1];rfl
  rw [hm];have hok:p.ok=true/\¬p.aO < 3/\¬6 < p.aO:=by
   cases ho:p.ok <;> simp_all
  have ef:=qK L2.good (L2.obj h) C.len C.dat p.aj;rw [hfn] at ef;simp only [oV,za1,zaI,uP] at ef;have LE:=L2.newL (ty:=166) (xs:=zE6) (r:=H.next+1+1) rfl (by rw [fE,fE]);have sE:Step b H _:=s2.trans (Step.new (.blk 0 166 zE6) L2.good.1);obtain⟨KE,x1,x2,ME,x4⟩:=LE.whole (by rw [sE.base];exact hb) ak (n:=6) (vs:=zE6) rfl rfl (by decide) rfl;have tE:=sE.trans x4;obtain⟨K,z1,z2,z3,z4⟩:=ME.whole (by rw [tE.base];exact hb) (r:=H.next+1) (xs:=zP9) (by rw [aA (by omega),aA (by omega),ak]) (n:=9) (vs:=zP9) rfl rfl (by decide) rfl;refine⟨K,?_,by rw [fJ h];exact z3.out,tE.trans z4⟩;rw [hok.1] at ck;simp only [Nat.reduceLT,xq_,Am,aG (aS p),pA,ck,zae,zam,p0,hok.2.1,hok.2.2,p4,ef,x1,ez,z1,z2,XH,fH]
end
section
variable {b:Nat}{H:ah}{g:bD}{q:Nat}{ca:Cache}
theorem adq(G:Good b H g)(hb:H.base<=b)(h:g q=some (dn ca))(C:COk ca)(p:Pkt)(hx:¬(!p.ok || decide (p.aO < 3) || decide (6 < p.aO))=true){e:Ent}(hfd:ca.find p.aj=some e):
  ∃H',cl 130 [.ref q 0 0,.agg p.av] H=some (XH (fK ca p),H')/\Good b H' (upd g q (dn (fK ca p).1))/\Step b H H':=by
 have hok:p.ok=true/\¬p.aO < 3/\¬6 < p.aO:=by
  cases ho:p.ok <;> simp_all
 have he:e.data.length < 1000000000:=C.dat e (zba hfd);refine jY rfl rfl (ae9 _ _ _ _) ?_;have L1:=(Loc.of G).newL (ty:=112) (xs:=p.av) (r:=H.next) (aS p) rfl;have L2:=L1.newL (ty:=112) (xs:=zP9) (r:=H.next+1) rfl (by rw [fE]);have s2:Step b H _:=(Step.new (.blk 0 112 p.av) G.1).trans (Step.new (.blk 0 112 zP9) L1.good.1);have k0:iE (iE noL H.next p.av) (H.next+1) zP9 H.next=some p.av:=by rw [aA (by omega),ak]
 have p0:=L2.ld k0 (i:=0) (v:=I p.aO) rfl;have p4:=L2.ld k0 (i:=4) (v:=I p.aj) rfl;have pA:=L2.lda k0 (i:=0) (n:=9) (ys:=p.av) rfl rfl (by decide);have ck:=λH=> Aw H p;have ef:=qK L2.good (L2.obj h) C.len C.dat p.aj;rw [hfd] at ef;simp only [oV,zat,zaJ] at ef;have LE:=L2.newL (ty:=166) (xs:=zE6) (r:=H.next+1+1) rfl (by rw [fE,fE]);have sE:Step b H _:=s2.trans (Step.new (.blk 0 166 zE6) L2.good.1);obtain⟨KE,x1,x2,ME,x4⟩:=LE.whole (by rw [sE.base];exact hb) ak (n:=6) (vs:=e.av) rfl rfl (by decide) (kU e);have tE:=sE.trans x4;have nE:H.next+1+1 < KE.next:=ME.good.lt (pO (g:=g) ak)
 have LO:=ME.newL (ty:=112) (xs:=zP9) (r:=KE.next) rfl rfl;have tO:=tE.trans (Step.new (.blk 0 112 zP9) ME.good.1);let out:Pkt:=⟨BK p.aO,p.dst,p.src,p.id,p.aj,0,0,false,[]⟩
 have y0:∀{xs:List AV} {l:Lcl},True:=λ{_ _}=> trivial;obtain⟨K0,o1,o2,M0,o4⟩:=LO.whole (by rw [jC,tE.base];exact hb) (r:=KE.next) ak (n:=9) (vs:=out.av) rfl (bU _) (by decide) (aS _);have t0:=tO.trans o4;have hbK:K0.base<=b:=by rw [t0.base];exact hb
 have ebd:bd 112 [(0,I (BK p.aO)),(1,I p.dst),(2,I p.src),(3,I p.id),(4,I p.aj)]=some (.agg out.av):=by
  simp only [xq_,qA,kE,gX,F5,out,Pkt.av,DN];rfl
 have ea:=λH=> Qd H p.aO;have m0:∀{l:Lcl},iE (iE (iE (iE (iE (iE noL H.next p.av) (H.next+1) zP9) (H.next+1+1) zE6) (H.next+1+1) e.av) KE.next zP9) KE.next out.av H.next=some p.av:=λ{_}=> by
  rw [aA (by omega),aA (by omega),aA (by omega),aA (by omega),aA (by omega),ak]
 have kE0:iE (iE (iE (iE (iE noL H.next p.av) (H.next+1) zP9) (H.next+1+1) zE6) (H.next+1+1) e.av) KE.next zP9 H.next=some p.av:=by
  rw [aA (by omega),aA (by omega),aA (by omega),aA (by omega),ak]
 have r0:=LO.ld kE0 (i:=0) (v:=I p.aO) rfl;have r1:=LO.ld kE0 (i:=1) (v:=I p.src) rfl;have r2:=LO.ld kE0 (i:=2) (v:=I p.dst) rfl;have r3:=LO.ld kE0 (i:=3) (v:=I p.id) rfl;have r4:=LO.ld kE0 (i:=4) (v:=I p.aj) rfl;have q0:=M0.ld (m0 (l:=noL)) (i:=0) (v:=I p.aO) rfl;have q5:=M0.ld (m0 (l:=noL)) (i:=5) (v:=I p.ptr) rfl;rw [hok.1] at ck;by_cases h4:p.aO=4
 ·have hm:fK ca p=((ca.put { e with fwd:=p.ptr }).1,out,(ca.put { e with fwd:=p.ptr }).2):=by
   simp only [fK,hfd];rw [if_neg hx,if_neg (by omega),if_pos h4]
  rw [hm];obtain⟨K1,u1,M1,w1⟩:=M0.st hbK (r:=H.next+1+1) (xs:=e.av) (by rw [aA (by omega),aA (by omega),ak]) (i:=0) (v:=I p.ptr) (by simp [Ent.av]) dO;have t1:=t0.trans w1;obtain⟨H',f1,f2,f3⟩:=MP M1 (by rw [t1.base];exact hb) h C { e with fwd:=p.ptr } he out (r4:=H.next+1) (r6:=H.next+1+1) (r8:=KE.next) (by rw [aA (by omega),aA (by omega),aA (by omega),aA (by omega),aA (by omega),ak]) (by rw [ak];rfl) (by rw [aA (by omega),ak]);refine⟨H',?_,f2,t1.trans f3⟩;have sf:=aaI _ _ _ _ u1;rw [h4] at q0;simp only [Nat.reduceLT,Int.reduceEq,xq_,Am,aG (aS p),pA,ck,zae,p0,hok.2.1,hok.2.2,p4,ef,x1,r0,ea,r1,r2,r3,r4,ebd,o1,q0,q5,sf,f1,XH]
 ·by_cases h5:p.aO=5
  ·have hm:fK ca p=((ca.put { e with back:=p.ptr }).1,out,(ca.put { e with back:=p.ptr }).2):=by
    simp only [fK,hfd];rw [if_neg hx,if_neg (by omega),if_neg h4,if_pos h5]
   rw [hm];obtain⟨K1,u1,M1,w1⟩:=M0.st hbK (r:=H.next+1+1) (xs:=e.av) (by rw [aA (by omega),aA (by omega),ak]) (i:=1) (v:=I p.ptr) (by simp [Ent.av]) dO;have t1:=t0.trans w1;obtain⟨H',f1,f2,f3⟩:=MP M1 (by rw [t1.base];exact hb) h C { e with back:=p.ptr } he out (r4:=H.next+1) (r6:=H.next+1+1) (r8:=KE.next) (by rw [aA (by omega),aA (by omega),aA (by omega),aA (by omega),aA (by omega),ak]) (by rw [ak];rfl) (by rw [aA (by omega),ak]);refine⟨H',?_,f2,t1.trans f3⟩;have sf:=JY _ _ 0 _ u1;rw [h5] at q0;simp only [Nat.reduceLT,Int.reduceEq,xq_,Am,aG (aS p),pA,ck,zae,p0,hok.2.1,hok.2.2,p4,ef,x1,r0,ea,r1,r2,r3,r4,ebd,o1,q0,q5,sf,f1,XH]
  ·have zE:iE (iE (iE (iE (iE (iE noL H.next p.av) (H.next+1) zP9) (H.next+1+1) zE6) (H.next+1+1) e.av) KE.next zP9) KE.next out.av (H.next+1+1)=some e.av:=by rw [aA (by omega),aA (by omega),ak]
   have g5:=M0.ld zE (i:=5) (v:=dat e.data) rfl;have g4:=M0.ld zE (i:=4) (v:=B e.cO) rfl;have g0:=M0.ld zE (i:=0) (v:=I e.fwd) rfl;obtain⟨K1,u1,M1,w1⟩:=M0.st hbK (r:=KE.next) ak (i:=8) (v:=dat e.data) (by simp [Pkt.av]) rW;have t1:=t0.trans w1;obtain⟨K2,u2,M2,w2⟩:=M1.st (by rw [t1.base];exact hb) (r:=KE.next) ak (i:=7) (v:=B e.cO) (by simp [Pkt.av]) Ei;have t2:=t1.trans w2;have c1:∀{β:Type} (o:Nat) (k:Option β),Proofs.YtljogojaihgdlaaGreat.ck (bQ (.ref (H.next+1+1) 0 o)) K0 K1 k=k:=λo k=> vM (oP u1 (by omega));have c2:∀{β:Type} (o:Nat) (k:Option β),Proofs.YtljogojaihgdlaaGreat.ck (bQ (.ref (H.next+1+1) 0 o)) K1 K2 k=k:=λo k=> vM (oP u2 (by omega));by_cases h3:p.aO=3
   ·have hm:fK ca p=((ca.put { e with cO:=false,back:=p.ptr }).1,{ out with data:=e.data,flag:=e.cO },(ca.put { e with cO:=false,back:=p.ptr }).2):=by
     simp only [fK,hfd];rw [if_neg hx,if_pos h3]
    rw [hm];obtain⟨K3,u3,M3,w3⟩:=M2.st (by rw [t2.base];exact hb) (r:=H.next+1+1) (xs:=e.av) (by rw [aA (by omega),aA (by omega)];exact zE) (i:=4) (v:=B false) (by simp [Ent.av]) Ei;have t3:=t2.trans w3;have q5':=M3.ld (r:=H.next) (xs:=p.av) (i:=5) (v:=I p.ptr) (by rw [aA (by omega),aA (by omega),aA (by omega)];exact m0 (l:=noL)) rfl;obtain⟨K4,u4,M4,w4⟩:=M3.st (by rw [t3.base];exact hb) (r:=H.next+1+1) ak (i:=1) (v:=I p.ptr) (by simp [Ent.av]) dO;have t4:=t3.trans w4;obtain⟨H',f1,f2,f3⟩:=MP M4 (by rw [t4.base];exact hb) h C { e with cO:=false,back:=p.ptr } he { out with data:=e.data,flag:=e.cO } (r4:=H.next+1) (r6:=H.next+1+1) (r8:=KE.next) (by rw [aA (by omega),aA (by omega),aA (by omega),aA (by omega),aA (by omega),aA (by omega),aA (by omega),aA (by omega),ak]) (by rw [ak];rfl) (by rw [aA (by omega),aA (by omega),ak];rfl);refine⟨H',?_,f2,t4.trans f3⟩;have sf:=JY _ _ 0 _ u4;rw [h3] at q0;simp only [Nat.reduceLT,Int.reduceEq,xq_,Am,aG (aS p),pA,ck,zae,p0,hok.2.1,hok.2.2,p4,ef,x1,r0,ea,r1,r2,r3,r4,ebd,o1,q0,g5,g4,u1,u2,c1,u3,q5',sf,f1,XH]
   ·have h6:p.aO=6:=by omega
    have hm:fK ca p=(ca.drop p.aj,{ out with data:=e.data,flag:=e.cO,ptr:=e.fwd },0):=by
     simp only [fK,hfd];rw [if_neg hx,if_neg h3,if_neg h4,if_neg h5]
    rw [hm];obtain⟨K3,u3,M3,w3⟩:=M2.st (by rw [t2.base];exact hb) (r:=KE.next) ak (i:=5) (v:=I e.fwd) (by simp [Pkt.av]) dO;have t3:=t2.trans w3;have q4:=M3.ld (r:=H.next) (xs:=p.av) (i:=4) (v:=I p.aj) (by rw [aA (by omega),aA (by omega),aA (by omega)];exact m0 (l:=noL)) rfl;obtain⟨K4,a1,a2,a3⟩:=Hl M3.good (by rw [t3.base];exact hb) (M3.obj h) C.len C.dat p.aj;have M4:=M3.call h a2;have t4:=t3.trans a3;have lo:=M4.lda (r:=KE.next) ak (i:=0) (n:=9) (ys:=({ out with data:=e.data,flag:=e.cO,ptr:=e.fwd }:Pkt).av) rfl rfl (by decide);obtain⟨K5,v1,v2,v3,v4⟩:=M4.whole (by rw [t4.base];exact hb) (r:=H.next+1) (xs:=zP9) (by rw [aA (by omega),aA (by omega),aA (by omega),aA (by omega),aA (by omega),aA (by omega),aA (by omega),ak]) (n:=9) (vs:=({ out with data:=e.data,flag:=e.cO,ptr:=e.fwd }:Pkt).av) rfl (bU _) (by decide) (aS _);refine⟨K5,?_,v3.out,t4.trans v4⟩;rw [h6] at q0;simp only [Nat.reduceLT,Int.reduceEq,xq_,Am,aG (aS p),pA,ck,zae,p0,hok.2.1,hok.2.2,p4,ef,x1,r0,ea,r1,r2,r3,r4,ebd,o1,q0,g5,g4,g0,u1,u2,u3,c1,c2,q4,a1,lo,v1,v2,XH]
end
section
variable {b:Nat}{H:ah}{g:bD}{q d tt:Nat}{c:Cfg}{me:Int}{h:Home}
theorem Xc(G:Good b H g)(N:nS g q d tt c me h)(T:TOk h.aP):cl 78 [.ref q 0 0] H=some (B (decide (h.ready≠[])),H):=by
 refine dJ rfl rfl (aoF _ _ _) ?_ iZ;have l1:=G.guard.load N.1 (i:=1) (x:=.ref tt 0 0) rfl;have e1:=JW G.guard N.2.2 T;have e2:=(nN H.guard h.ready).lnS;have hr:h.aP.ready (srt [] (h.aP.wait.map (·.1)))=h.ready:=rfl;rw [hr] at e1;by_cases hz:h.ready=[]
 ·have:¬(0:Int) < (h.ready.length:Int):=by rw [hz];decide
  simp only [xq_,ag9,l1,e1,hz,ne_eq,not_true_eq_false]
  try rfl
 ·have:(0:Int) < (h.ready.length:Int):=by
   cases hx:h.ready with
   | nil=> exact absurd hx hz
   | cons a l=> simp only [zal];omega
  simp only [xq_,ag9,l1,e1,e2,this,hz,ne_eq,not_false_eq_true]
end
section
variable {b:Nat}{H:ah}{g:bD}{q d tt:Nat}{c:Cfg}{me:Int}{h:Home}
theorem adr(G:Good b H g)(hb:H.base<=b)(N:nS g q d tt c me h)(T:TOk h.aP)(hr:∀e∈h.dD,e.2.data.length < 1000000000):
  ∃H',cl 80 [.ref q 0 0] H=some (.tup [.agg (h.grant me).2.1.av,B (h.grant me).2.2],H')/\Good b H' (kW g d tt c (h.grant me).1)/\Step b H H':=by
 refine jY rfl rfl (aoH _ _ _) ?_;have L:=(Loc.of G).newL (ty:=112) (xs:=zP9) (r:=H.next) rfl rfl;have s1:Step b H _:=Step.new (.blk 0 112 zP9) G.1;have hbK:(H.new (.blk 0 112 zP9)).base<=b:=by rw [jC];exact hb
 have l1:=L.good.load (L.obj N.1) (i:=1) (x:=.ref tt 0 0) rfl;have e1:=JW L.good (L.obj N.2.2) T;have e2:=(nN (H.new (.blk 0 112 zP9)) h.ready).lnS;have hre:h.aP.ready (srt [] (h.aP.wait.map (·.1)))=h.ready:=rfl;rw [hre] at e1;have ez:bd 112 []=some (.agg zP9):=by simp only [xq_,qA,kE,eu]
 cases hz:h.ready with
 | nil=>
  have hm:h.grant me=(h,.zero,false):=by simp only [Home.grant,hz]
  rw [hm,ER N];obtain⟨K,z1,z2,z3,z4⟩:=L.whole hbK ak (n:=9) (vs:=zP9) rfl rfl (by decide) rfl;refine⟨K,?_,z3.out,s1.trans z4⟩;rw [hz] at e1 e2;have n0:¬((0:Int) < ((([]:List Int).length:Nat):Int)):=by decide
  simp only [xq_,ahb,l1,e1,e2];rw [Ze];simp only [xq_,n0,ez,z1,z2,fH]
 | cons aj rest=>
  obtain⟨m1,m2,_⟩:=wL hz;obtain⟨w,ws,hw⟩:∃w ws,h.aP.ws aj=w::ws:=by
   cases hx:h.aP.ws aj with
   | nil=> exact absurd hx m2
   | cons a l=> exact⟨a,l,rfl⟩
  have hn:h.aP.next aj=(⟨lK h.aP.fU aj w.1,lK h.aP.wait aj ws⟩,some w):=by simp only [Turns.next,m1,hw,zaf,if_false]
  have hm:h.grant me=({ h with aP:=(h.aP.next aj).1 },granted h.dD me aj w.1 w.2,true):=by simp only [Home.grant,hz,hn]
  rw [hm];obtain⟨K1,a1,a2,a3⟩:=aap L.good hbK (L.obj N.2.2) T.nd aj (T.ws aj);have M:=L.call N.2.2 a2;have NK:=N.ahO { h with aP:=(h.aP.next aj).1 };rw [y7 N] at NK ⊢;have NL:nS (lay (upd g tt (iP (h.aP.next aj).1)) (iE noL H.next zP9)) q d tt c me { h with aP:=(h.aP.next aj).1 }:=⟨M.obj NK.1,M.obj NK.2.1,M.obj NK.2.2⟩
  have gr:=JV M.good NL hr aj w.1 w.2;obtain⟨K,z1,z2,z3,z4⟩:=M.whole (by rw [a3.base];exact hbK) ak (n:=9) (vs:=(granted h.dD me aj w.1 w.2).av) rfl (bU _) (by decide) (aS _);refine⟨K,?_,z3.out,(s1.trans a3).trans z4⟩;have hs:=nN (H.new (.blk 0 112 zP9)) h.ready;have x1:=hs.ix (k:=.i64) (i:=(0:Int)) (by omega) (by rw [hz];simp only [zal];omega);have x2:=hs.ld (i:=0) (by rw [hz];simp);rw [hz] at x1 x2 e1 e2;simp only [zaz,zaR,zak] at x2;rw [show((0:Int).toNat)=0 from rfl] at x1;have n0:(0:Int) < (((aj::rest).length:Nat):Int):=by simp only [zal];omega
  rw [hn] at a1;simp only [al6,zat,zaJ] at a1;simp only [xq_,ahb,l1,e1,e2];rw [Ze];simp only [xq_,n0,x1,x2,l1,a1,gr,z1,z2]
end
structure NS(c:Cfg)(me:Int)(n:Node)(r:jQ):Prop where
 sim:am5 c me n r
 rok:(r.homes.aP.owner.map (·.1)).Nodup
 rge:∀o∈r.homes.aP.owner,0<=o.2
theorem NS.cs {c:Cfg}{me:Int}{n:Node}{r:jQ}(S:NS c me n r):BO n.aI r.aI:=⟨S.sim.sets,S.sim.ways,S.sim.bZ,S.sim.sorted,S.sim.perm⟩
theorem NS.hs {c:Cfg}{me:Int}{n:Node}{r:jQ}(S:NS c me n r):Jz c me n.home r.homes:=⟨S.sim.dD,S.sim.none,⟨S.sim.owner,S.sim.waits,S.rok,S.rge⟩⟩
theorem NS.of {c:Cfg}{me:Int}{n:Node}{r:jQ}(C:BO n.aI r.aI)(H:Jz c me n.home r.homes)(h1:r.ops=n.bG.ops)(h2:r.bf=n.bG.bf)(h3:r.dU=n.bG.dU)(h4:r.has=!decide (n.aF.step=0))(h5:r.aF=if n.aF.step=0 then .zero else n.aF)(h6:r.num=n.num):NS c me n r:=
 ⟨⟨h1,h2,h3,h4,h5,h6,C.sets,C.ways,C.bZ,C.sorted,C.perm,H.dD,H.none,H.aP.owner,H.aP.waits⟩,H.aP.rok,H.aP.rge⟩
structure aq4(c:Cfg)(o:Opn):Prop where
 k1:1<=o.aO
 k4:o.aO<=4
 aj:c.bV o.addr=o.addr.tdiv c.dh
 lo:0<=c.bV o.addr
 hi:c.bV o.addr < c.bg
 word:c.dw o.addr=o.addr.tmod c.dh
 wlo:0<=c.dw o.addr
 whi:c.dw o.addr < c.dh
theorem anc {c:Cfg}(hc:c.ok=true){o:Opn}(h:c.right o=true):aq4 c o:=by
 obtain⟨_,hl,hw,_⟩:=mM hc;unfold Cfg.right at h;simp only [zah,decide_eq_true_eq] at h;obtain⟨⟨⟨h1,h2⟩,h3⟩,_⟩:=h;have h4:¬(o.addr < 0∨c.oD<=o.addr):=λe=> h3 (by unfold Cfg.bV;rw [if_pos e]);simp only [not_or] at h4;have e1:c.bV o.addr=o.addr / c.dh:=by unfold Cfg.bV;rw [if_neg (by simp only [not_or];exact h4)]
 have e2:c.dw o.addr=o.addr % c.dh:=by unfold Cfg.dw;rw [if_neg (by simp only [not_or];exact h4)]
 have ha:o.addr < c.bg*c.dh:=by have:=h4.2;unfold Cfg.oD at this;omega
 refine⟨h1,h2,?_,?_,?_,?_,?_,?_⟩
 ·rw [e1,Int.tdiv_eq_ediv_of_nonneg (by omega)]
 ·rw [e1];exact Int.ediv_nonneg (by omega) (by omega)
 ·rw [e1];exact Int.ediv_lt_of_lt_mul (by omega) ha
 ·rw [e2,zcr (by omega)]
 ·rw [e2];exact zb8 _ (by omega)
 ·rw [e2];exact zcm _ (by omega)
theorem qM(e:Ent)(o:Opn)(w:Int):(eH e o w).aj=e.aj/\(eH e o w).used=e.used/\(eH e o w).cO=e.cO/\(eH e o w).data.length=e.data.length:=by
 unfold eH;split
 ·unfold Ent.write;split <;> simp
 ·split
  ·unfold Ent.write;split <;> simp
  ·simp
theorem Xd {c:Cfg}{e:Ent}{o:Opn}{w:Int}(hd:pF c e.data)(ho:I64 o.value):pF c (eH e o w).data:=by
 refine⟨by rw [(qM e o w).2.2.2];exact hd.1,?_⟩;have key:∀v,I64 v->∀x∈(e.write w v).data,I64 x:=by
  intro v hv x hx;unfold Ent.write at hx;split at hx
  ·rcases zbL hx with h | h
   ·exact hd.2 x h
   ·rw [h];exact hv
  ·exact hd.2 x hx
 unfold eH;split
 ·exact key _ ho
 ·split
  ·exact key _ (ajF _)
  ·exact hd.2
structure Eff(c:Cfg)(me:Int)(n:Node)(r:jQ)(t:List Evn)(A:NT)(B:RNT):Prop where
 sim:BO A.1.aI B.1.aI
 rest:B.1={ r with aI:=B.1.aI,bf:=n.bG.bf++[A.2.getLast?.elim 0 (·.value)],dU:=false }
 apl:A.1={ n with aI:=A.1.aI,bG:=⟨n.bG.ops,n.bG.bf++[A.2.getLast?.elim 0 (·.value)],false⟩ }
 ev:B.2=A.2
 inv:Eo c A.1.aI
 len:A.2.length=t.length+1
theorem MQ {ca:Cache}(hl:Lines ca.l){e:Ent}(h0:0<=e.aj)(hf:ca.full e.aj=false):∃u,(ca.put e).1.find e.aj=some { e with used:=u }:=by
 cases h:ca.find e.aj with
 | some x=>
  refine⟨x.used,?_⟩;rw [lC hl h0 h];obtain⟨hx,hxl⟩:=(iy hl).1 h;unfold Cache.find;rw [iy (Ad hl λy _=> by
   split
   ·rename_i h;exact h.symm
   ·rfl)]
  exact⟨zaG.2 ⟨x,hx,by rw [if_pos hxl]⟩,rfl⟩
 | none=>
  refine⟨ca.bZ+1,?_⟩;unfold Cache.put;rw [if_neg (by omega),yV.2 h];simp only [hf,zaf,if_false];unfold Cache.find;rw [zdB];have:(ca.l.find? λx=> decide (x.aj=e.aj))=none:=h;rw [this];simp
theorem Ia(ca:Cache)(e:Ent):(ca.put e).1.bZ<=ca.bZ+1:=by
 unfold Cache.put;split
 ·simp only;omega
 ·split
  ·simp only;omega
  ·split <;> simp only <;> omega
theorem CW(ca:Cache)(aj:Int):(ca.drop aj).bZ=ca.bZ:=by
 unfold Cache.drop;split <;> rfl
theorem rQ(me:Int)(n:Node)(p:Pkt):n.after me p=Dy n.aF me n.aI p:=rfl
theorem AQ {d:bJ}{me:Int}{ca:Cache}{p:Pkt}(h:d.fits p=false):Dy d me ca p=vN ca:=by
 have h1:dQ d me ca p=vN ca:=by unfold dQ;rw [if_pos (.inr h)]
 have h2:dS d me ca p=vN ca:=by unfold dS;rw [if_pos (.inr h)]
 have h3:eF d ca p=vN ca:=by unfold eF;rw [if_pos (.inr h)]
 unfold Dy;rw [h1,h2,h3];split
 ·rfl
 ·split
  ·rfl
  ·split <;> rfl
theorem aaJ {d:bJ}{p:Pkt}(h:d.fits p=true):p.aO=BK (zS d.step):=by
 unfold bJ.fits at h;simp only [zah,decide_eq_true_eq] at h;exact h.1.1.2
structure Ib(c:Cfg)(d:bJ)(ca:Cache)(d':bJ)(ca':Cache):Prop where
 inv:Eo c ca'
 aj:d'.aj=d.aj
 aO:d'.aO=d.aO
 dat:d'.data=[]∨pF c d'.data
 agM:d'.aO=2->d'.step=3->pF c d'.data
 clk:ca'.bZ<=ca.bZ∨(d.aO≠3/\d'.step=6/\ca'.bZ<=ca.bZ+1)
 way:(d.step=6/\d'.step=0/\ca'=ca)∨(d'.step≠0/\d.step≠6/\(d.aO≠3->(d'.step≠6/\ca'=ca)∨(d'.step=6/\∃e,ca'.find d.aj=some e/\(d.aO=2->e.cO=true))))
theorem Vw {c:Cfg}{ca:Cache}(I:Eo c ca){d:bJ}{me:Int}(h0:0<=d.aj)(h1:d.aj < c.bg)(hf:ca.full d.aj=false)(hd:pF c d.data)(hk:d.aO=2)(hs:d.step≠6){d0:bJ}(e1:d0.aj=d.aj)(e2:d0.aO=d.aO)(e3:d0.step≠6):
  Ib c d0 ca (bT d me ca).2 (bT d me ca).1:=by
 have key:∀d':bJ,d'.aj=d.aj->d'.aO=d.aO->d'.data=d.data->Ib c d0 ca (if d'.next≠-1 then(ca,{ d' with step:=3 }) else((ca.put ⟨-1,-1,d'.aj,0,true,d'.data⟩).1,{ d' with step:=6,aT:=2,head:=me,data:=[] })).2 (if d'.next≠-1 then(ca,{ d' with step:=3 }) else((ca.put ⟨-1,-1,d'.aj,0,true,d'.data⟩).1,{ d' with step:=6,aT:=2,head:=me,data:=[] })).1:=by
  intro d' l1 l2 l3;by_cases h:d'.next≠-1
  ·rw [if_pos h];exact⟨I,by rw [e1];exact l1,by rw [e2];exact l2,.inr (by simp only [l3];exact hd),λ_ _=> by simp only [l3];exact hd,.inl (zbi _),.inr ⟨by simp,e3,λ_=> .inl ⟨by simp,rfl⟩⟩⟩
  ·rw [if_neg h];obtain⟨u,hu⟩:=MQ I.bg (e:=⟨-1,-1,d'.aj,0,true,d'.data⟩) (by simp only [l1];exact h0) (by simp only [l1];exact hf);have hu':(ca.put ⟨-1,-1,d'.aj,0,true,d'.data⟩).1.find d0.aj=some ⟨-1,-1,d'.aj,u,true,d'.data⟩:=by
    rw [e1,<-l1];exact hu
   exact⟨I.put (by simp only [l1];exact h0) (by simp only [l1];exact h1) (by simp only [l3];exact hd),by rw [e1];exact l1,by rw [e2];exact l2,.inl rfl,λ_ h=> by simp at h,.inr ⟨by rw [e2,hk];decide,rfl,Ia _ _⟩,.inr ⟨by simp,e3,λ_=> .inr ⟨rfl,_,hu',λ_=> rfl⟩⟩⟩
 unfold bT;cases ca.find d.aj with
 | none=> exact key d rfl rfl rfl
 | some own=>
  by_cases h:d.next=me
  ·simp only [if_pos h];exact key { d with next:=own.fwd } rfl rfl rfl
  ·simp only [if_neg h];exact key d rfl rfl rfl
theorem MR {c:Cfg}{n:Node}{me:Int}(I:Eo c n.aI)(D:aeQ c n)(hs0:n.aF.step≠0){p:Pkt}(Q:xZ c p){ca:Cache}{d:bJ}(h:Dy n.aF me n.aI p=(ca,d,true)):Ib c n.aF n.aI d ca:=by
 have hf:n.aF.fits p=true:=by
  cases e:n.aF.fits p with
  | true=> rfl
  | false=> rw [AQ e] at h;simp [vN] at h
 have hpk:=aaJ hf;have apm:n.aF.step=1->pF c p.data:=λe=> Q.dat (.inl (by rw [hpk,e];rfl));have apn:n.aF.step=2∨n.aF.step=3->pF c p.data:=λe=> Q.dat (.inr (by rcases e with e | e <;> rw [hpk,e] <;> rfl));have s6:n.aF.step=6->(n.aI,{ n.aF with step:=0 },true)=(ca,d,true)->Ib c n.aF n.aI d ca:=λs e=> by
  simp only [zad,and_true] at e;obtain⟨rfl,rfl⟩:=e;exact⟨I,rfl,rfl,D.dat,λ_ h=> by simp at h,.inl (zbi _),.inl ⟨s,rfl,rfl⟩⟩
 unfold Dy at h;by_cases k1:n.aF.aO=1
 ·rw [if_pos k1] at h;unfold dQ at h;rw [if_neg (show¬(n.aF.aO≠1∨n.aF.fits p=false) by rw [hf];rintro(h | h) <;> first | omega | cases h)] at h;have W:=D.work (by omega);by_cases t1:n.aF.step=1
  ·rw [if_pos t1] at h;have W:=W (by omega);by_cases p0:p.aT≠0
   ·rw [if_pos p0] at h;simp only [zad,and_true] at h;obtain⟨rfl,rfl⟩:=h;exact⟨I,rfl,rfl,.inr (apm t1),λh=> by simp only at h;omega,.inl (zbi _),.inr ⟨by simp,by omega,λ_=> .inl ⟨by simp,rfl⟩⟩⟩
   ·rw [if_neg p0] at h;simp only [zad,and_true] at h;obtain⟨rfl,rfl⟩:=h;obtain⟨u,hu⟩:=MQ I.bg (e:=⟨-1,-1,n.aF.aj,0,false,p.data⟩) D.lo W.full;exact⟨I.put D.lo D.hi (apm t1),rfl,rfl,.inl rfl,λ_ h=> by simp at h,.inr ⟨by omega,rfl,Ia _ _⟩,.inr ⟨by simp,by omega,λ_=> .inr ⟨rfl,_,hu,λh=> by omega⟩⟩⟩
  rw [if_neg t1] at h;by_cases t2:n.aF.step=2
  ·rw [if_pos t2] at h;have W:=W (by omega);simp only [zad,and_true] at h;obtain⟨rfl,rfl⟩:=h;obtain⟨u,hu⟩:=MQ I.bg (e:=⟨n.aF.head,-1,n.aF.aj,0,false,p.data⟩) D.lo W.full;refine⟨I.put D.lo D.hi (apn (.inl t2)),rfl,rfl,?_,λh=> by simp only at h;omega,.inr ⟨by omega,rfl,Ia _ _⟩,.inr ⟨by simp,by omega,λ_=> .inr ⟨rfl,_,hu,λh=> by omega⟩⟩⟩;simp only;split
   ·exact .inr (apn (.inl t2))
   ·exact .inl rfl
  rw [if_neg t2] at h;by_cases t6:n.aF.step=6
  ·rw [if_pos t6] at h;exact s6 t6 h
  ·rw [if_neg t6] at h;simp [vN] at h
 rw [if_neg k1] at h;by_cases k2:n.aF.aO=2
 ·rw [if_pos k2] at h;unfold dS at h;rw [if_neg (show¬(n.aF.aO≠2∨n.aF.fits p=false) by rw [hf];rintro(h | h) <;> first | omega | cases h)] at h;have W:=D.work (by omega);by_cases t1:n.aF.step=1
  ·rw [if_pos t1] at h;have W:=W (by omega);simp only [zad,and_true] at h;obtain⟨rfl,rfl⟩:=h;have key:∀dt,pF c dt->Ib c n.aF n.aI (bT { n.aF with aT:=p.aT,head:=p.ptr,told:=p.ptr,data:=dt,next:=p.ptr } me n.aI).2 (bT { n.aF with aT:=p.aT,head:=p.ptr,told:=p.ptr,data:=dt,next:=p.ptr } me n.aI).1:=λdt hdt=>
    Vw (d:={ n.aF with aT:=p.aT,head:=p.ptr,told:=p.ptr,data:=dt,next:=p.ptr }) I D.lo D.hi W.full hdt k2 (show n.aF.step≠6 by omega) rfl rfl (by omega)
   cases hfd:n.aI.find n.aF.aj with
   | none=> exact key _ (apm t1)
   | some e=> exact key _ (I.ent e ((iy I.bg).1 hfd).1).dat
  rw [if_neg t1] at h;by_cases t3:n.aF.step=3
  ·rw [if_pos t3] at h;have W:=W (by omega);simp only [zad,and_true] at h;obtain⟨rfl,rfl⟩:=h;have key:∀dt,pF c dt->Ib c n.aF n.aI (bT { n.aF with data:=dt,next:=p.ptr } me n.aI).2 (bT { n.aF with data:=dt,next:=p.ptr } me n.aI).1:=λdt hdt=>
    Vw (d:={ n.aF with data:=dt,next:=p.ptr }) I D.lo D.hi W.full hdt k2 (show n.aF.step≠6 by omega) rfl rfl (by omega)
   cases hfd:n.aI.find n.aF.aj with
   | none=> exact key _ (apn (.inr t3))
   | some e=> exact key _ (D.agM k2 t3)
  rw [if_neg t3] at h;by_cases t6:n.aF.step=6
  ·rw [if_pos t6] at h;exact s6 t6 h
  ·rw [if_neg t6] at h;simp [vN] at h
 rw [if_neg k2] at h;have k3:n.aF.aO=3:=by have:=D.aO;omega
 rw [if_pos k3] at h;unfold eF at h;rw [if_neg (show¬(n.aF.aO≠3∨n.aF.fits p=false) by rw [hf];rintro(h | h) <;> first | omega | cases h)] at h;have no3:∀{P:Prop},n.aF.aO≠3->P:=λh=> absurd k3 h;by_cases t1:n.aF.step=1
 ·rw [if_pos t1] at h;cases hfd:n.aI.find n.aF.aj with
  | none=>
   simp only [hfd,zad,and_true] at h;obtain⟨rfl,rfl⟩:=h;exact⟨I,rfl,rfl,.inl rfl,λh=> by simp only at h;omega,.inl (zbi _),.inr ⟨by simp,by omega,no3⟩⟩
  | some e=>
   simp only [hfd] at h;have E:=I.ent e ((iy I.bg).1 hfd).1;by_cases b1:e.back=-1/\e.fwd=-1
   ·simp only [if_pos b1,zad,and_true] at h;obtain⟨rfl,rfl⟩:=h;refine⟨I.drop _,rfl,rfl,?_,λh=> by simp only at h;omega,.inl (by rw [CW];exact zbi _),.inr ⟨by simp,by omega,no3⟩⟩;simp only;split
    ·exact .inr E.dat
    ·exact .inl rfl
   ·simp only [if_neg b1] at h;by_cases b2:e.back=-1
    ·simp only [if_pos b2,zad,and_true] at h;obtain⟨rfl,rfl⟩:=h;exact⟨I,rfl,rfl,.inl rfl,λh=> by simp only at h;omega,.inl (zbi _),.inr ⟨by simp,by omega,no3⟩⟩
    ·simp only [if_neg b2,zad,and_true] at h;obtain⟨rfl,rfl⟩:=h;exact⟨I,rfl,rfl,.inl rfl,λh=> by simp only at h;omega,.inl (zbi _),.inr ⟨by simp,by omega,no3⟩⟩
 rw [if_neg t1] at h;have out:∀hd,gJ n.aF n.aI hd=(ca,d,true)->n.aF.step≠6->Ib c n.aF n.aI d ca:=λhd e hs=> by
  simp only [gJ,zad,and_true] at e;obtain⟨rfl,rfl⟩:=e;exact⟨I.drop _,rfl,rfl,.inl rfl,λh=> by simp only at h;omega,.inl (by rw [CW];exact zbi _),.inr ⟨by simp,hs,no3⟩⟩
 by_cases t4:n.aF.step=4
 ·rw [if_pos t4] at h;split at h
  ·exact out _ h (by omega)
  ·simp only [zad,and_true] at h;obtain⟨rfl,rfl⟩:=h;exact⟨I,rfl,rfl,D.dat,λh=> by simp only at h;omega,.inl (zbi _),.inr ⟨by simp,by omega,no3⟩⟩
 rw [if_neg t4] at h;by_cases t5:n.aF.step=5
 ·rw [if_pos t5] at h;split at h
  ·exact out _ h (by omega)
  ·exact out _ h (by omega)
 rw [if_neg t5] at h;by_cases t6:n.aF.step=6
 ·rw [if_pos t6] at h;exact s6 t6 h
 ·rw [if_neg t6] at h;simp [vN] at h
structure Iw where
 a:Nat->Nat
 f:Nat
 P:Nat->Nat->Nat
 t:Nat
def XI(S:Iw)(k:Nat)(q:Nat):Prop:=(∃i,i < 6/\q=S.a i)∨NG S.P k q∨q=S.t
structure NW(g:bD)(S:Iw)(c:Cfg)(me:Int)(w:NFT):Prop where
 bn:rH g S.a c me w.1
 fab:ig g S.f S.P c w.2.1
 tr:g S.t=some (jG w.2.2)
 PU:PO S.P w.2.1.l.length
 tf:S.t≠S.f
theorem jy {g:bD}{x y:Nat}{A B:List Cell}(h:g x=some A)(h':g y=some B)(hl:A.length≠B.length):x≠y:=λe=> by
 subst e;rw [h] at h';exact hl (by rw [za2 h'])
theorem amx {g:bD}{x y:Nat}{A B:List Cell}(h:g x=some A)(h':g y=some B)(hl:A[1]?≠B[1]?):x≠y:=λe=> by
 subst e;rw [h] at h';exact hl (by rw [za2 h'])
section
variable {b:Nat}{K K':ah}{g g':bD}{ls:Lcl}{S:Iw}{c:Cfg}{me:Int}{w:NFT}
theorem gW {a:Nat->Nat}{d:bJ}{num:Int}:(x9 a c me d num).length=22:=by simp [x9,PL,Cfg.av,bJ.av]
theorem nT {l:List Evn}:(jG l).length=1:=rfl
theorem jU {P:Nat->Nat->Nat}{n:Nat}:(acR P n).length=1:=rfl
theorem gy {ca:Cache}:(dn ca).length=4:=rfl
theorem iK {p:Proc}:(qR p).length=3:=rfl
theorem gB {t:Turns}:(iP t).length=2:=rfl
theorem jK {l:List Pkt}{r:Int}:(nM l r).length=2:=rfl
theorem jV {r:Rows}:(EL c r).length=9:=by simp [EL,Cfg.av]
theorem je {d t:Nat}:(GY d t c me).length=11:=by simp [GY,Cfg.av]
theorem NW.Vx(N:NW g S c me w):(∀i,i < 6->S.a i≠S.t):=λi hi=> by
 obtain⟨h0,h1,h2,h3,h4,h5⟩:=N.bn
 match i,hi with
 | 0,_=> exact jy h0 N.tr (by simp only [gW,nT];decide)
 | 1,_=> exact jy h1 N.tr (by simp only [nT,gy];decide)
 | 2,_=> exact jy h2 N.tr (by simp only [nT,iK];decide)
 | 3,_=> exact jy h3 N.tr (by simp only [nT,je];decide)
 | 4,_=> exact jy h4 N.tr (by simp only [nT,jV];decide)
 | 5,_=> exact jy h5 N.tr (by simp only [nT,gB];decide)
theorem NW.apo(N:NW g S c me w):(∀i,i < 6->S.a i≠S.f):=λi hi=> by
 obtain⟨h0,h1,h2,h3,h4,h5⟩:=N.bn;have h:=N.fab.1
 match i,hi with
 | 0,_=> exact jy h0 h (by simp only [gW,jU];decide)
 | 1,_=> exact jy h1 h (by simp only [jU,gy];decide)
 | 2,_=> exact jy h2 h (by simp only [jU,iK];decide)
 | 3,_=> exact jy h3 h (by simp only [jU,je];decide)
 | 4,_=> exact jy h4 h (by simp only [jU,jV];decide)
 | 5,_=> exact jy h5 h (by simp only [jU,gB];decide)
theorem NW.port {q:Nat}(N:NW g S c me w)(h:NG S.P w.2.1.l.length q):∃l r,g q=some (nM l r):=by
 obtain⟨i,s,hi,hs,rfl⟩:=h;exact⟨_,_,gK (N.fab.port hi) hs⟩
theorem NW.Td(N:NW g S c me w){q:Nat}(h:NG S.P w.2.1.l.length q):(∀i,i < 6->S.a i≠q)/\S.t≠q/\S.f≠q:=by
 obtain⟨l,r,hg⟩:=N.port h;obtain⟨h0,h1,h2,h3,h4,h5⟩:=N.bn;refine⟨λi hi=> ?_,jy N.tr hg (by simp only [nT,jK];decide),jy N.fab.1 hg (by simp only [jU,jK];decide)⟩
 match i,hi with
 | 0,_=> exact jy h0 hg (by simp only [gW,jK];decide)
 | 1,_=> exact jy h1 hg (by simp only [gy,jK];decide)
 | 2,_=> exact jy h2 hg (by simp only [iK,jK];decide)
 | 3,_=> exact jy h3 hg (by simp only [jK,je];decide)
 | 4,_=> exact jy h4 hg (by simp only [jK,jV];decide)
 | 5,_=> exact amx h5 hg (by simp [iP,nM])
theorem ig.same {f:Nat}{P:Nat->Nat->Nat}{fab:Fab}(F:ig g f P c fab)(hf:g' f=g f)(hp:∀q,NG P fab.l.length q->g' q=g q):ig g' f P c fab:=
 ⟨by rw [hf];exact F.1,λi p hi=> (F.2.1 i p hi).ext λs hs=> hp _ ⟨i,s,(zai.1 hi).1,hs,rfl⟩,F.2.2⟩
theorem NW.set(N:NW g S c me w){n:Node}(hn:rH g' S.a c me n)(h:∀q,(∀i,i < 6->q≠S.a i)->g' q=g q):NW g' S c me (n,w.2):=by
 refine⟨hn,N.fab.same (h _ λi hi=> (N.apo i hi).symm) (λq hq=> h _ λi hi=> ((N.Td hq).1 i hi).symm),?_,N.PU,N.tf⟩;rw [h _ λi hi=> (N.Vx i hi).symm];exact N.tr
theorem Off.ane {k:Nat}(h:∀q,(∀i,i < 6->q≠S.a i)->g' q=g q):Off (XI S k) g g':=λq hq=> h q λi hi e=> hq (.inl ⟨i,hi,e⟩)
theorem CX {i:Nat}(hi:i < 6){cs:List Cell}:∀q,(∀i,i < 6->q≠S.a i)->upd g (S.a i) cs q=g q:=λq hq=> bH (hq i hi)
theorem NW.aI(N:NW g S c me w)(ca:Cache):NW (upd g (S.a 1) (dn ca)) S c me ({ w.1 with aI:=ca },w.2):=by
 refine N.set ?_ (CX (by decide));have I:=N.bn;obtain⟨h0,h1,h2,h3,h4,h5⟩:=N.bn;have ne:∀i,i < 6->i≠1->S.a i≠S.a 1:=λi hi h e=> h (I.inj hi (by decide) e);exact⟨by rw [bH (ne 0 (by decide) (by decide))];exact h0,aV,by rw [bH (ne 2 (by decide) (by decide))];exact h2,by rw [bH (ne 3 (by decide) (by decide))];exact h3,by rw [bH (ne 4 (by decide) (by decide))];exact h4,by rw [bH (ne 5 (by decide) (by decide))];exact h5⟩
theorem NW.bG(N:NW g S c me w)(p:Proc):NW (upd g (S.a 2) (qR p)) S c me ({ w.1 with bG:=p },w.2):=by
 refine N.set ?_ (CX (by decide));have I:=N.bn;obtain⟨h0,h1,h2,h3,h4,h5⟩:=N.bn;have ne:∀i,i < 6->i≠2->S.a i≠S.a 2:=λi hi h e=> h (I.inj hi (by decide) e);exact⟨by rw [bH (ne 0 (by decide) (by decide))];exact h0,by rw [bH (ne 1 (by decide) (by decide))];exact h1,aV,by rw [bH (ne 3 (by decide) (by decide))];exact h3,by rw [bH (ne 4 (by decide) (by decide))];exact h4,by rw [bH (ne 5 (by decide) (by decide))];exact h5⟩
theorem NW.own(N:NW g S c me w)(d:bJ)(num:Int):NW (upd g (S.a 0) (x9 S.a c me d num)) S c me ({ w.1 with aF:=d,num:=num },w.2):=by
 refine N.set ?_ (CX (by decide));have I:=N.bn;obtain⟨h0,h1,h2,h3,h4,h5⟩:=N.bn;have ne:∀i,i < 6->i≠0->S.a i≠S.a 0:=λi hi h e=> h (I.inj hi (by decide) e);exact⟨aV,by rw [bH (ne 1 (by decide) (by decide))];exact h1,by rw [bH (ne 2 (by decide) (by decide))];exact h2,by rw [bH (ne 3 (by decide) (by decide))];exact h3,by rw [bH (ne 4 (by decide) (by decide))];exact h4,by rw [bH (ne 5 (by decide) (by decide))];exact h5⟩
theorem NW.home(N:NW g S c me w)(h:Home):NW (kW g (S.a 4) (S.a 5) c h) S c me ({ w.1 with home:=h },w.2):=by
 have I:=N.bn;obtain⟨h0,h1,h2,hh⟩:=N.bn;refine N.set ?_ λq hq=> ?_
 ·have ne:∀i j,i < 6->j < 6->i≠j->S.a i≠S.a j:=λi j hi hj h e=> h (I.inj hi hj e);refine⟨?_,?_,?_,hh.ahO h⟩
  ·unfold kW;rw [bH (ne 0 5 (by decide) (by decide) (by decide)),bH (ne 0 4 (by decide) (by decide) (by decide))];exact h0
  ·unfold kW;rw [bH (ne 1 5 (by decide) (by decide) (by decide)),bH (ne 1 4 (by decide) (by decide) (by decide))];exact h1
  ·unfold kW;rw [bH (ne 2 5 (by decide) (by decide) (by decide)),bH (ne 2 4 (by decide) (by decide) (by decide))];exact h2
 ·unfold kW;rw [bH (hq 5 (by decide)),bH (hq 4 (by decide))]
theorem NW.trace(N:NW g S c me w)(l:List Evn):NW (upd g S.t (jG l)) S c me (w.1,w.2.1,l):=by
 refine⟨N.bn.ext λs hs=> bH (N.Vx s hs),N.fab.same (bH N.tf.symm) (λq hq=> bH (N.Td hq).2.1.symm),aV,N.PU,N.tf⟩
theorem NW.net(N:NW g S c me w){fab:Fab}(F:ig g' S.f S.P c fab)(hl:fab.l.length=w.2.1.l.length)(O:Off (NG S.P w.2.1.l.length) g g'):NW g' S c me (w.1,fab,w.2.2):=by
 have no:∀i,i < 6->¬NG S.P w.2.1.l.length (S.a i):=λi hi h=> (N.Td h).1 i hi rfl;refine⟨N.bn.ext λs hs=> O _ (no s hs),F,?_,by rw [hl];exact N.PU,N.tf⟩;rw [O _ λh=> (N.Td h).2.1 rfl];exact N.tr
theorem NW.sub(N:NW g S c me w)(h:ru g g'):NW g' S c me w:=
 ⟨N.bn.ext λs hs=> by obtain⟨l,hl⟩:=N.bn.some hs;rw [hl,h _ _ hl],N.fab.sub h,h _ _ N.tr,N.PU,N.tf⟩
theorem Loc.sub(L:Loc b K g ls):ru g (lay g ls):=λq cs h=> L.obj h
theorem Loc.home(L:Loc b K g ls){d t:Nat}{cs cs':List Cell}(h4:g d=some cs)(h5:g t=some cs'){h:Home}(G:Good b K' (kW (lay g ls) d t c h)):Loc b K' (kW g d t c h) ls:=by
 have e4:=(L.at_ h4).2;have e5:=(L.at_ h5).2;unfold kW at G ⊢;refine⟨by rw [MN e5,MN e4];exact G,λr hr=> ?_⟩;rw [bH (λe=> by subst e;exact hr e5),bH (λe=> by subst e;exact hr e4)];exact L.free r hr
theorem Loc.net(L:Loc b K g ls){T:Nat->Prop}(hT:∀q,T q->g q≠none){g1:bD}(G:Good b K' g1)(O:Off T (lay g ls) g1):∃g',Loc b K' g' ls/\Off T g g'/\∀q,ls q=none->g' q=g1 q:=by
 let g':bD:=λq=> match ls q with
  | some _=> none
  | none=> g1 q
 have at1:∀q,ls q=none->g' q=g1 q:=λq h=> by simp only [g',h]
 have e:lay g' ls=g1:=by
  funext q
  cases h:ls q with
  | none=> simp only [lay,h];exact at1 q h
  | some xs=>
   have:¬T q:=λht=> hT q ht (L.free q (by rw [h];simp));rw [O q this];simp only [lay,h]
 refine⟨g',⟨by rw [e];exact G,λr hr=> ?_⟩,λq hq=> ?_,at1⟩
 ·simp only [g'];cases h:ls r with
  | none=> exact absurd h hr
  | some xs=> rfl
 ·cases h:ls q with
  | none=> rw [at1 q h,O q hq];simp only [lay,h]
  | some xs=>
   simp only [g',h];rw [L.free q (by rw [h];simp)]
end
theorem NW.agree {g g':bD}{S:Iw}{c:Cfg}{me:Int}{w:NFT}(N:NW g S c me w)(h:∀q,XI S w.2.1.l.length q∨q=S.f->g' q=g q):NW g' S c me w:=
 ⟨N.bn.ext λs hs'=> h _ (.inl (.inl ⟨s,hs',rfl⟩)),N.fab.same (h _ (.inr rfl)) λq hq=> h _ (.inl (.inr (.inl hq))),by rw [h _ (.inl (.inr (.inr rfl)))];exact N.tr,N.PU,N.tf⟩
theorem NW.here {g:bD}{S:Iw}{c:Cfg}{me:Int}{w:NFT}(N:NW g S c me w){q:Nat}(h:XI S w.2.1.l.length q):g q≠none:=by
 rcases h with⟨i,hi,rfl⟩ | hp | rfl
 ·obtain⟨l,hl⟩:=N.bn.some hi;rw [hl];simp
 ·obtain⟨l,r,hl⟩:=N.port hp;rw [hl];simp
 ·rw [N.tr];simp
def ap7(b:Nat)(H:ah)(g:bD)(S:Iw)(c:Cfg)(me:Int)(k:Nat)(H':ah)(w':NFT):Prop:=
 ∃g',Good b H' g'/\NW g' S c me w'/\Off (XI S k) g g'/\Step b H H'/\w'.2.1.l.length=k
structure Walk(b:Nat)(H:ah)(g0:bD)(S:Iw)(c:Cfg)(me:Int)(k:Nat)(K:ah)(g:bD)(ls:Lcl)(w:NFT):Prop where
 hb:H.base<=b
 loc:Loc b K g ls
 nw:NW g S c me w
 off:Off (XI S k) g0 g
 step:Step b H K
 len:w.2.1.l.length=k
section
variable {b:Nat}{H:ah}{g0:bD}{S:Iw}{c:Cfg}{me:Int}{k:Nat}{K K':ah}{g:bD}{ls:Lcl}{w w':NFT}
theorem Walk.of {g:bD}(G:Good b H g)(hb:H.base<=b)(N:NW g S c me w):Walk b H g S c me w.2.1.l.length H g noL w:=⟨hb,Loc.of G,N,Off.refl _ _,Step.refl _ _,rfl⟩
theorem Walk.base(W:Walk b H g0 S c me k K g ls w):K.base<=b:=by rw [W.step.base];exact W.hb
theorem Walk.res(W:Walk b H g0 S c me k K g ls w):ap7 b H g0 S c me k K w:=⟨g,W.loc.out,W.nw,W.off,W.step,W.len⟩
theorem Walk.newL(W:Walk b H g0 S c me k K g ls w){ty:TypeId}{xs:List AV}{r:Nat}(hc:xs.all AV.aQ=true)(hr:r=K.next)(ht:ty < gQ:=by decide):Walk b H g0 S c me k (K.new (.blk 0 ty xs)) g (iE ls r xs) w:=
 ⟨W.hb,W.loc.newL hc hr ht,W.nw,W.off,W.step.trans (Step.new _ W.loc.good.1),W.len⟩
theorem Walk.whole(W:Walk b H g0 S c me k K g ls w){r n:Nat}{xs vs:List AV}(h:ls r=some xs)(hx:xs.length=n)(hn:vs.length=n)(hp:0 < n)(hv:vs.all AV.aQ=true):
  ∃K',Proofs.YtljogojaihgdlaaGreat.st n (.ref r 0 0) (.agg vs) K=some (aZ,K')/\Proofs.YtljogojaihgdlaaGreat.lda n (.ref r 0 0) K'=some (.agg vs,K')/\Walk b H g0 S c me k K' g (iE ls r vs) w:=by
 obtain⟨K',h1,h2,h3,h4⟩:=W.loc.whole W.base h hx hn hp hv;exact⟨K',h1,h2,W.hb,h3,W.nw,W.off,W.step.trans h4,W.len⟩
theorem Walk.same(W:Walk b H g0 S c me k K g ls w)(G:Good b K' (lay g ls))(s:Step b K K'):Walk b H g0 S c me k K' g ls w:=⟨W.hb,⟨G,W.loc.free⟩,W.nw,W.off,W.step.trans s,W.len⟩
theorem Walk.aI(W:Walk b H g0 S c me k K g ls w){ca:Cache}(G:Good b K' (upd (lay g ls) (S.a 1) (dn ca)))(s:Step b K K'):Walk b H g0 S c me k K' (upd g (S.a 1) (dn ca)) ls ({ w.1 with aI:=ca },w.2):=
 ⟨W.hb,W.loc.call W.nw.bn.2.1 G,W.nw.aI ca,W.off.trans (Off.ane (CX (by decide))),W.step.trans s,W.len⟩
theorem Walk.bG(W:Walk b H g0 S c me k K g ls w){p:Proc}(G:Good b K' (upd (lay g ls) (S.a 2) (qR p)))(s:Step b K K'):Walk b H g0 S c me k K' (upd g (S.a 2) (qR p)) ls ({ w.1 with bG:=p },w.2):=
 ⟨W.hb,W.loc.call W.nw.bn.2.2.1 G,W.nw.bG p,W.off.trans (Off.ane (CX (by decide))),W.step.trans s,W.len⟩
theorem Walk.own(W:Walk b H g0 S c me k K g ls w){d:bJ}{num:Int}(G:Good b K' (upd (lay g ls) (S.a 0) (x9 S.a c me d num)))(s:Step b K K'):Walk b H g0 S c me k K' (upd g (S.a 0) (x9 S.a c me d num)) ls ({ w.1 with aF:=d,num:=num },w.2):=
 ⟨W.hb,W.loc.call W.nw.bn.1 G,W.nw.own d num,W.off.trans (Off.ane (CX (by decide))),W.step.trans s,W.len⟩
theorem Walk.home(W:Walk b H g0 S c me k K g ls w){h:Home}(G:Good b K' (kW (lay g ls) (S.a 4) (S.a 5) c h))(s:Step b K K'):Walk b H g0 S c me k K' (kW g (S.a 4) (S.a 5) c h) ls ({ w.1 with home:=h },w.2):=by
 obtain⟨h0,h1,h2⟩:=W.nw.bn.2.2.2;refine⟨W.hb,W.loc.home h1 h2 G,W.nw.home h,W.off.trans (Off.ane λq hq=> ?_),W.step.trans s,W.len⟩;unfold kW;rw [bH (hq 5 (by decide)),bH (hq 4 (by decide))]
theorem Walk.trace(W:Walk b H g0 S c me k K g ls w){l:List Evn}(G:Good b K' (upd (lay g ls) S.t (jG l)))(s:Step b K K'):Walk b H g0 S c me k K' (upd g S.t (jG l)) ls (w.1,w.2.1,l):=
 ⟨W.hb,W.loc.call W.nw.tr G,W.nw.trace l,W.off.trans (Off.upd (.inr (.inr rfl))),W.step.trans s,W.len⟩
theorem Walk.Ql(W:Walk b H g0 S c me k K g ls w):NW (lay g ls) S c me w:=W.nw.sub W.loc.sub
theorem Walk.net(W:Walk b H g0 S c me k K g ls w){g1:bD}{fab:Fab}(G:Good b K' g1)(F:ig g1 S.f S.P c fab)(hl:fab.l.length=w.2.1.l.length)(O:Off (NG S.P w.2.1.l.length) (lay g ls) g1)(s:Step b K K'):∃g',Walk b H g0 S c me k K' g' ls (w.1,fab,w.2.2):=by
 obtain⟨g',L,O',h⟩:=W.loc.net (T:=NG S.P w.2.1.l.length) (λq hq=> by obtain⟨l,r,e⟩:=W.nw.port hq;rw [e];simp) G O;have no:∀{q cs},g q=some cs->ls q=none:=λe=> (W.loc.at_ e).2;have F':ig g' S.f S.P c fab:=F.same (h _ (no W.nw.fab.1)) λq hq=> by
  rw [hl] at hq;obtain⟨l,r,e⟩:=W.nw.port hq;exact h _ (no e)
 refine⟨g',W.hb,L,W.nw.net F' hl O',W.off.trans (O'.mono λq hq=> .inr (.inl (by rw [<-W.len];exact hq))),W.step.trans s,by rw [<-W.len];exact hl⟩
theorem Walk.app(W:Walk b H g0 S c me k K g ls w)(h:ap7 b K (lay g ls) S c me k K' w'):∃g',Walk b H g0 S c me k K' g' ls w':=by
 obtain⟨g1,G,N,O,s,hl⟩:=h;obtain⟨g',L,O',h⟩:=W.loc.net (T:=XI S k) (λq hq=> W.nw.here (by rw [W.len];exact hq)) G O;have no:∀q,g q≠none->ls q=none:=λq hq=> by
  cases e:ls q with
  | none=> rfl
  | some xs=> exact absurd (W.loc.free q (by rw [e];simp)) hq
 refine⟨g',W.hb,L,N.agree λq hq=> h q (no q ?_),W.off.trans O',W.step.trans s,hl⟩;rcases hq with hq | rfl
 ·exact W.nw.here (by rw [W.len,<-hl];exact hq)
 ·rw [W.nw.fab.1];simp
end
section
variable {b:Nat}{H:ah}{g0:bD}{S:Iw}{c:Cfg}{me:Int}{k:Nat}{K K':ah}{g:bD}{ls:Lcl}{w w':NFT}
structure PSz(p:Proc):Prop where
 ops:p.ops.length < 1000
 vals:p.bf.length<=p.ops.length
theorem Walk.ldN(W:Walk b H g0 S c me k K g ls w){i:Nat}{v:AV}(hi:(PL S.a c me w.1.aF w.1.num)[i]?=some v):ld (.ref (S.a 0) 0 i) K=some (v,K):=
 W.loc.good.load (W.loc.obj W.nw.bn.1) (i:=i) (x:=v) (by rw [x9,zaM,hi];rfl)
theorem Walk.amy(W:Walk b H g0 S c me k K g ls w){i n:Nat}{ys:List AV}(hi:((PL S.a c me w.1.aF w.1.num).drop i).take n=ys)(hn:ys.length=n)(hp:0 < n):lda n (.ref (S.a 0) 0 i) K=some (.agg ys,K):=
 W.loc.good.loads (W.loc.obj W.nw.bn.1) (i:=i) (n:=n) (xs:=ys) (by rw [x9,<-hi,zcA,zdz]) hn hp
theorem Walk.cur(W:Walk b H g0 S c me k K g ls w)(hp:PSz w.1.bG):∃K',cl 74 [.ref (S.a 2) 0 0] K=some (.tup [.agg w.1.bG.op.av,I w.1.bG.idx,B w.1.bG.cur.isSome],K')/\Walk b H g0 S c me k K' g ls w:=by
 obtain⟨K',h1,h2,h3⟩:=ahY W.loc.good W.base (W.loc.obj W.nw.bn.2.2.1) hp.ops (by have:=hp.vals;have:=hp.ops;omega) hp.vals;exact⟨K',h1,W.same h2 h3⟩
theorem Walk.pend(W:Walk b H g0 S c me k K g ls w)(hp:PSz w.1.bG)(v:Int):∃r K' g',cl 117 [.ref (S.a 2) 0 0,I v] K=some (r,K')/\Walk b H g0 S c me k K' g' ls ({ w.1 with bG:=w.1.bG.yx v },w.2):=by
 obtain⟨r,K',h1,h2,h3⟩:=ahX W.loc.good W.base (W.loc.obj W.nw.bn.2.2.1) (by have:=hp.vals;have:=hp.ops;omega) v;exact⟨r,K',_,h1,W.bG h2 h3⟩
theorem Walk.tend(W:Walk b H g0 S c me k K g ls w)(hl:w.2.2.length < 1000000)(n i v:Int):∃K' g',cl 118 [.ref S.t 0 0,I n,I i,I v] K=some (.tup [],K')/\Walk b H g0 S c me k K' g' ls (w.1,w.2.1,w.2.2++[⟨n,i,true,v⟩]):=by
 obtain⟨K',h1,h2,h3⟩:=adp W.loc.good W.base (W.loc.obj W.nw.tr) hl n i v;exact⟨K',_,h1,W.trace h2 h3⟩
theorem Walk.amA(W:Walk b H g0 S c me k K g ls w)(hl:w.2.2.length < 1000000)(n i:Int):∃K' g',cl 85 [.ref S.t 0 0,I n,I i] K=some (.tup [],K')/\Walk b H g0 S c me k K' g' ls (w.1,w.2.1,w.2.2++[⟨n,i,false,0⟩]):=by
 obtain⟨K',h1,h2,h3⟩:=Xb W.loc.good W.base (W.loc.obj W.nw.tr) hl n i;exact⟨K',_,h1,W.trace h2 h3⟩
theorem Walk.aq5(W:Walk b H g0 S c me k K g ls w)(C:COk w.1.aI)(e:Ent){x:AV}(hel:e.data.length < 1000000000)(hx:lF K x e.data):∃K' g',cl 121 [.ref (S.a 1) 0 0,.agg (e.avx x)] K=some (I (w.1.aI.put e).2,K')/\Walk b H g0 S c me k K' g' ls ({ w.1 with aI:=(w.1.aI.put e).1 },w.2):=by
 obtain⟨K',h1,h2,h3⟩:=Vl W.loc.good W.base (W.loc.obj W.nw.bn.2.1) C.len C.sets C.clk e hel hx;exact⟨K',_,h1,W.aI h2 h3⟩
theorem Walk.find(W:Walk b H g0 S c me k K g ls w)(C:COk w.1.aI)(aj:Int):cl 87 [.ref (S.a 1) 0 0,I aj] K=some (oV (w.1.aI.find aj),K):=
 qK W.loc.good (W.loc.obj W.nw.bn.2.1) C.len C.dat aj
theorem Walk.send(W:Walk b H g0 S c me k K g ls w)(F:FOk c w.2.1)(p:Pkt)(hl:p.data.length < 1000000000):∃K' g',cl 81 [.ref S.f 0 0,.agg p.av] K=some (I (w.2.1.send p).2,K')/\Walk b H g0 S c me k K' g' ls (w.1,(w.2.1.send p).1,w.2.2):=by
 obtain⟨K',g1,h1,h2,h3,h4,h5⟩:=ahQ W.loc.good W.base W.Ql.fab W.nw.PU F p hl;have hlen:(w.2.1.send p).1.l.length=w.2.1.l.length:=by
  unfold Fab.send;split
  ·rfl
  ·split
   ·rfl
   ·simp [Fab.put]
 obtain⟨g',W'⟩:=W.net h2 h3 hlen h4 h5;exact⟨K',g',h1,W'⟩
theorem aaK(W:Walk b H g0 S c me k K g ls w)(hp:PSz w.1.bG)(hl:w.2.2.length < 1000000)(v:Int):
  ∃K' g',cl 75 [.ref (S.a 0) 0 0,.ref S.t 0 0,I v] K=some (.tup [],K')/\Walk b H g0 S c me k K' g' ls ((w.1.done me w.2.2 v).1,w.2.1,(w.1.done me w.2.2 v).2):=by
 have G:=W.loc.good;have W0:=Walk.of G W.base W.Ql;have l1:=W0.ldN (i:=1) (v:=.ref (S.a 2) 0 0) rfl;obtain⟨K1,a1,W1⟩:=W0.cur hp;have W2:=W1.newL (ty:=53) (xs:=[zI,zI,zI]) (r:=K1.next) rfl rfl;obtain⟨K3,b1,b2,W3⟩:=W2.whole ak (n:=3) (vs:=w.1.bG.op.av) rfl (fG _) (by decide) (rX _);have l3:=W3.ldN (i:=1) (v:=.ref (S.a 2) 0 0) rfl;obtain⟨r,K4,g4,c1,W4⟩:=W3.pend hp v;have l4:=W4.ldN (i:=10) (v:=I me) rfl;obtain⟨K5,g5,d1,W5⟩:=W4.tend hl me w.1.bG.idx v;obtain⟨g',W'⟩:=W.app (K':=K5) (w':=((w.1.done me w.2.2 v).1,w.2.1,(w.1.done me w.2.2 v).2)) (by
  have:=W5.res;rw [W.len] at this;exact this)
 refine⟨K5,g',bI rfl rfl (aoB _ _ _ _ _ ?_),W'⟩;simp only [xq_,akg,l1,a1,b1,l3,c1,l4,d1]
theorem Tf(W:Walk b H g0 S c me k K g ls w)(hc:c.ok=true)(F:FOk c w.2.1)(hd:w.1.aF.data.length < 1000000000):
  ∃K' g',cl 77 [.ref (S.a 0) 0 0,.ref S.f 0 0] K=some (.tup [],K')/\Walk b H g0 S c me k K' g' ls (w.1,w.1.ab8 c me w.2.1,w.2.2):=by
 have G:=W.loc.good;have W0:=Walk.of G W.base W.Ql;have l1:=W0.amy (i:=12) (n:=9) (ys:=w.1.aF.av) rfl rfl (by decide);have l2:=W0.ldN (i:=10) (v:=I me) rfl;have l3:=W0.amy (i:=2) (n:=8) (ys:=c.av) rfl rfl (by decide);have l4:=W0.ldN (i:=13) (v:=I w.1.aF.aj) rfl;have e1:=GX K.guard c hc w.1.aF.aj;have e2:=amu K w.1.aF me (c.aX w.1.aF.aj) hd;have hal:(w.1.aF.ask me (c.aX w.1.aF.aj)).data.length < 1000000000:=by
  unfold bJ.ask
  repeat' split
  all_goals first | exact hd | exact(show(0:Nat) < 1000000000 by decide)
 obtain⟨K5,g5,d1,W5⟩:=W0.send F (w.1.aF.ask me (c.aX w.1.aF.aj)) hal;obtain⟨g',W'⟩:=W.app (K':=K5) (w':=(w.1,w.1.ab8 c me w.2.1,w.2.2)) (by
  have:=W5.res;rw [W.len] at this;exact this)
 refine⟨K5,g',bI rfl rfl (aoE _ _ _ _ ?_),W'⟩;simp only [Nat.reduceAdd,xq_,akh,l1,l2,l3,l4,e1,e2,d1]
end
theorem ahZ {n:Nat}{x v r:AV}{H H':ah}(h:st n x v H=some (r,H')):H'.next=H.next:=by
 unfold st at h;split at h
 ·split at h
  ·split at h
   ·cases h;rfl
   ·cases h
  ·cases h
 ·cases h
theorem is0(H:ah)(e:Ent)(w:Int):cl0 161 [.agg e.av,I w] H=some (B (decide (0<=w/\w < e.data.length)),H.new (.blk 0 166 e.av)):=by
 refine iG (afu _ _ _ _ ?_);have e1:=λH=> (nN H e.data).lnS;by_cases h0:0<=w
 ·simp only [Nat.reduceLT,xq_,hq_,Pq,aG,Ent.av,h0,e1]
 ·simp only [Nat.reduceLT,xq_,hq_,Pq,aG,Ent.av,h0,false_and]
theorem amB(H:ah)(l:List Int)(h:l≠[])(hl:l.length < 1000000000):cl0 55 [dat l] H=some (.sl (H.next+1) 0 0 1 l.length l.length false,(H.new (.blk 0 3 [])).new (.blk 0 (3+gQ) (l.map I))):=by
 have h0:l.length≠0:=λe=> h (zar e);have e2:=sU (e:=3) (by_:=8) (r:=H.next) (H:=H.new (.blk 0 3 [])) qE (nN _ l) (xG l) h0 (by unfold most;omega) (by unfold most;omega);simp only [fE] at e2;have e1:bi .eql 22 (dat l) zN=some (B false):=by rw [yE h];exact sV Tryz.underlying22
 refine iG (SA _ _ _ ?_);simp only [xq_,Pm,e1,FZ,yR,e2,zbo,zaS]
section
variable {b:Nat}{H:ah}{g0:bD}{S:Iw}{c:Cfg}{me:Int}{k:Nat}{K K':ah}{g:bD}{ls:Lcl}{w w':NFT}
theorem Walk.new(W:Walk b H g0 S c me k K g ls w)(o:fV):Walk b H g0 S c me k (K.new o) g ls w:=⟨W.hb,W.loc.new o,W.nw,W.off,W.step.trans (Step.new _ W.loc.good.1),W.len⟩
theorem MS {args:List AV}{r:AV × ah}(h:cl0 120 args K=some r):cl 120 args K=some r:=FQ (p:=cl0 120) rfl h
theorem Walk.write(W:Walk b H g0 S c me k K g ls w){r:Nat}{e:Ent}(h:ls r=some e.av)(he:e.data.length < 1000000000)(i v:Int):
  ∃res K' x,cl 120 [.ref r 0 0,I i,I v] K=some (res,K')/\lF K' x (e.write i v).data/\Walk b H g0 S c me k K' g (iE ls r ((e.write i v).avx x)) w:=by
 have same:iE ls r e.av=ls:=by
  funext x;simp only [iE];split
  ·rename_i hx;rw [hx,h]
  ·rfl
 have hr:r < K.next:=W.loc.good.lt (pO h)
 have l4:=W.loc.ld h (i:=4) (v:=B e.cO) rfl;cases hd:e.cO with
 | false=>
  have hm:e.write i v=e:=by unfold Ent.write;rw [if_neg (by simp [hd])]
  rw [hm];rw [hd] at l4;refine⟨B false,K,dat e.data,MS (iG (Zm _ _ _ _ _ ?_)),pY _ _,by
   have:e.avx (dat e.data)=e.av:=rfl;rw [this,same];exact W⟩
  simp only [xq_,UO,l4,zam]
 | true=>
  rw [hd] at l4;have la:=W.loc.lda h (i:=0) (n:=6) (ys:=e.av) rfl rfl (by decide);have e1:=is0 K e i;have W1:=W.new (.blk 0 166 e.av);by_cases hi:0<=i/\i < e.data.length
  ·have hm:e.write i v={ e with data:=e.data.set i.toNat v }:=by unfold Ent.write;rw [if_pos ⟨hd,hi⟩]
   have hne:e.data≠[]:=λh0=> by rw [h0] at hi;simp at hi;omega
   have e2:=amB (K.new (.blk 0 166 e.av)) e.data hne he;simp only [fE] at e2;have l5:=W1.loc.ld h (i:=5) (v:=dat e.data) rfl;let y:AV:=.sl (K.next+1+1) 0 0 1 e.data.length e.data.length false;obtain⟨K3,u1,L3,s3⟩:=W.loc.st W.base h (i:=5) (v:=y) (by simp [Ent.av]) vJ;have nx:=ahZ u1;let o1:fV:=.blk 0 166 e.av;let o2:fV:=.blk 0 3 [];let o3:fV:=.blk 0 (3+gQ) (e.data.map I);have u2:st 1 (.ref r 0 5) y (((K.new o1).new o2).new o3)=some (aZ,((K3.new o1).new o2).new o3):=by
    rw [OW (by rw [fE,fE];omega),OW (by rw [fE];omega),OW hr,u1];rfl
   have L4:=((L3.new o1).new o2).new o3;have l5':=L4.ld ak (i:=5) (v:=y) (by simp [Ent.av]);have hn2:((K3.new o1).new o2).next=K.next+1+1:=by rw [fE,fE,nx]
   have hs:aN (((K3.new o1).new o2).new o3) y 1 e.data.length (e.data.map I):=by
    have:=nO (e:=3+gQ) (m:=1) (n:=e.data.length) (l:=e.data.map I) (H:=(K3.new o1).new o2) (ex:=false) (by simp);rw [hn2] at this;exact this
   have ex:=hs.ix (k:=.i64) (i:=i) hi.1 hi.2;have ep:eP y i.toNat=.ref (K.next+1+1) 0 i.toNat:=by simp [y,eP]
   rw [ep] at ex;have u3:st 1 (.ref (K.next+1+1) 0 i.toNat) (I v) (((K3.new o1).new o2).new o3)=some (aZ,((K3.new o1).new o2).new (.blk 0 (3+gQ) ((e.data.set i.toNat v).map I))):=by
    rw [UC hn2.symm];have hbK:((K3.new o1).new o2).base<=K.next+1+1:=by
     rw [jC,jC,s3.base];have:=W.base;have:=W.loc.good.1;omega
    have hset:aW (e.data.map I) i.toNat (I v).cells=(e.data.set i.toNat v).map I:=by
     rw [show(I v).cells=[I v] from rfl];have hlt:i.toNat < (e.data.map I).length:=by simp;omega
     unfold aW;rw [List.map_set,zc6,if_pos hlt];simp
    rw [hset,if_pos ⟨hbK,rfl,rfl,by rw [show(I v).cells=[I v] from rfl];simp only [zaB,zal,zan];omega⟩]
   refine⟨B true,((K3.new o1).new o2).new (.blk 0 (3+gQ) ((e.data.set i.toNat v).map I)),y,MS (iG (Zm _ _ _ _ _ ?_)),?_,?_⟩;rotate_left
   ·rw [hm];have:=nO (e:=3+gQ) (m:=1) (n:=(e.data.set i.toNat v).length) (l:=(e.data.set i.toNat v).map I) (H:=(K3.new o1).new o2) (ex:=false) (by simp);rw [hn2] at this;rw [zbY] at this;refine⟨?_,vJ,λh0=> ?_⟩
    ·simp only [zbY];exact this
    ·have:=congrArg List.length h0;simp at this;exact absurd this hne
   ·rw [hm];have L5:=((L3.new o1).new o2).new (.blk 0 (3+gQ) ((e.data.set i.toNat v).map I));have hx:(e.av.set 5 y)=({ e with data:=e.data.set i.toNat v }:Ent).avx y:=rfl;rw [hx] at L5;exact⟨W.hb,L5,W.nw,W.off,((((W.step.trans s3).trans (Step.new _ L3.good.1)).trans (Step.new _ (L3.new o1).good.1)).trans (Step.new _ ((L3.new o1).new o2).good.1)),W.len⟩
   ·simp only [o1,o2,o3,y] at u2 l5' ex u3;rw [decide_eq_true hi] at e1;simp only [xq_,UO,l4,la,e1,zae,l5,e2,u2,l5',ex,u3];rfl
  ·have hm:e.write i v=e:=by unfold Ent.write;rw [if_neg (λh=> hi h.2)]
   rw [hm];refine⟨B false,_,dat e.data,MS (iG (Zm _ _ _ _ _ ?_)),pY _ _,by
    have:e.avx (dat e.data)=e.av:=rfl;rw [this,same];exact W1⟩
   rw [decide_eq_false hi] at e1;simp only [xq_,UO,l4,la,e1,zae,zam]
end
section
variable {b:Nat}{H:ah}{g0:bD}{S:Iw}{c:Cfg}{me:Int}{k:Nat}{K K':ah}{g:bD}{ls:Lcl}{w w':NFT}
theorem ah0(W:Walk b H g0 S c me k K g ls w)(hp:PSz w.1.bG)(C:COk w.1.aI)(hl:w.2.2.length < 1000000){r4 r9:Nat}{o:Opn}{e:Ent}{x:AV}(h4:ls r4=some o.av)(h9:ls r9=some (e.avx x))(he:e.data.length < 1000000000)(hx:lF K x e.data)(was:Int):
  ∃K' g',yZ cl (.ref (S.a 0) 0 0) (.ref S.t 0 0) (.ref r4 0 0) (.ref r9 0 0) (I was) K=some (.tup [],K')/\
   Walk b H g0 S c me k K' g' ls ((({ w.1 with aI:=(w.1.aI.put e).1 }:Node).done me w.2.2 (if o.aO=2 then 0 else was)).1,w.2.1,(({ w.1 with aI:=(w.1.aI.put e).1 }:Node).done me w.2.2 (if o.aO=2 then 0 else was)).2):=by
 have l1:=W.ldN (i:=0) (v:=.ref (S.a 1) 0 0) rfl;have l2:=W.loc.lda h9 (i:=0) (n:=6) (ys:=e.avx x) rfl rfl (by decide);obtain⟨K1,g1,a1,W1⟩:=W.aq5 C e he hx;have l3:=W1.loc.ld h4 (i:=0) (v:=I o.aO) rfl;obtain⟨K2,g2,b1,W2⟩:=aaK W1 hp hl (if o.aO=2 then 0 else was);refine⟨K2,g2,?_,W2⟩;by_cases h2:o.aO=2
 ·rw [h2] at l3;rw [if_pos h2] at b1;simp only [xq_,yZ,LQ,l1,l2,a1,l3,b1]
 ·rw [if_neg h2] at b1;simp only [xq_,yZ,LQ,l1,l2,a1,l3,h2,b1]
theorem Qm(W:Walk b H g0 S c me k K g ls w)(hc:c.ok=true)(hp:PSz w.1.bG)(C:COk w.1.aI)(hl:w.2.2.length < 1000000):
  ∃K' g',cl 76 [.ref (S.a 0) 0 0,.ref S.t 0 0] K=some (.tup [],K')/\Walk b H g0 S c me k K' g' ls ((w.1.effect c me w.2.2).1,w.2.1,(w.1.effect c me w.2.2).2):=by
 have W0:=Walk.of W.loc.good W.base W.Ql;obtain⟨o,ho⟩:∃o,w.1.bG.op=o:=⟨_,rfl⟩
 obtain⟨wi,hwi⟩:∃wi,c.dw o.addr=wi:=⟨_,rfl⟩
 obtain⟨e,hee⟩:∃e,(w.1.aI.find (c.bV o.addr)).getD .zero=e:=⟨_,rfl⟩
 have hed:e.data.length < 1000000000:=by
  rw [<-hee];cases hf:w.1.aI.find (c.bV o.addr) with
  | none=> exact(show(0:Nat) < 1000000000 by decide)
  | some e'=> exact C.dat e' (zba hf)
 have l1:=W0.ldN (i:=1) (v:=.ref (S.a 2) 0 0) rfl;obtain⟨K1,a1,W1⟩:=W0.cur hp;have W2:=W1.newL (ty:=53) (xs:=[zI,zI,zI]) (r:=K1.next) rfl rfl;obtain⟨K3,b1,b2,W3⟩:=W2.whole ak (n:=3) (vs:=o.av) rfl (fG _) (by decide) (rX _);have lc:=W3.amy (i:=2) (n:=8) (ys:=c.av) rfl rfl (by decide);have k3:iE (iE noL K1.next [zI,zI,zI]) K1.next o.av K1.next=some o.av:=ak
 have la:=W3.loc.ld k3 (i:=1) (v:=I o.addr) rfl;have el:=PG K3 c hc o.addr;rw [hwi] at el;have l0:=W3.ldN (i:=0) (v:=.ref (S.a 1) 0 0) rfl;have ef:=W3.find C (c.bV o.addr);simp only [oV] at ef;rw [hee] at ef;have n3:K1.next < K3.next:=W3.loc.good.lt (pO (g:=lay g ls) k3)
 have W4:=W3.newL (ty:=166) (xs:=[zI,zI,zI,zI,zB,zN]) (r:=K3.next) rfl rfl;obtain⟨K5,c1,c2,W5⟩:=W4.whole ak (n:=6) (vs:=e.av) rfl rfl (by decide) (kU e);have ew:=ahB K5 e wi;have k9:iE (iE (iE (iE noL K1.next [zI,zI,zI]) K1.next o.av) K3.next [zI,zI,zI,zI,zB,zN]) K3.next e.av K3.next=some e.av:=ak
 have k4:iE (iE (iE (iE noL K1.next [zI,zI,zI]) K1.next o.av) K3.next [zI,zI,zI,zI,zB,zN]) K3.next e.av K1.next=some o.av:=by rw [aA (by omega),aA (by omega)];exact k3
 have lk:=W5.loc.ld k4 (i:=0) (v:=I o.aO) rfl;have lv:=W5.loc.ld k4 (i:=2) (v:=I o.value) rfl;have hm:w.1.effect c me w.2.2=({ w.1 with aI:=(w.1.aI.put (eH e o wi)).1 }:Node).done me w.2.2 (if o.aO=2 then 0 else e.word wi):=by
  simp only [Node.effect,ho,hee,hwi]
 rw [ho] at a1
 -- a word is written,or none
 have key:∀{K6:ah} {ls6:Lcl} {x:AV},Walk b K (lay g ls) S c me w.2.1.l.length K6 (lay g ls) ls6 w->ls6 K1.next=some o.av->ls6 K3.next=some ((eH e o wi).avx x)->lF K6 x (eH e o wi).data->
   ∃K' g',yZ cl (.ref (S.a 0) 0 0) (.ref S.t 0 0) (.ref K1.next 0 0) (.ref K3.next 0 0) (I (e.word wi)) K6=some (.tup [],K')/\Walk b H g0 S c me k K' g' ls ((w.1.effect c me w.2.2).1,w.2.1,(w.1.effect c me w.2.2).2):=by
  intro K6 ls6 x W6 h4 h9 hx;obtain⟨K7,g7,r1,W7⟩:=ah0 W6 hp C hl h4 h9 (by rw [(qM e o wi).2.2.2];exact hed) hx (e.word wi);rw [<-hm] at W7;obtain⟨g',W'⟩:=W.app (K':=K7) (w':=((w.1.effect c me w.2.2).1,w.2.1,(w.1.effect c me w.2.2).2)) (by
   have:=W7.res;rw [W.len] at this;exact this)
  exact⟨K7,g',r1,W'⟩
 by_cases h2:o.aO=2
 ·obtain⟨res,K6,x,d1,hx,W6⟩:=W5.write k9 hed wi o.value;have he:eH e o wi=e.write wi o.value:=by unfold eH;rw [if_pos h2]
  obtain⟨K7,g',r1,W'⟩:=key W6 (by rw [aA (by omega)];exact k4) (by rw [ak,he]) (by rw [he];exact hx);refine⟨K7,g',bI rfl rfl (ag8 _ _ _ _ ?_),W'⟩;rw [h2] at lk;simp only [Int.reduceEq,xq_,acz,l1,a1,b1,lc,la,el,l0,ef,c1,c2,ew,lk,lv,d1,r1]
 ·by_cases h3:o.aO=3
  ·obtain⟨res,K6,x,d1,hx,W6⟩:=W5.write k9 hed wi (w64 (e.word wi+o.value));have he:eH e o wi=e.write wi (w64 (e.word wi+o.value)):=by unfold eH;rw [if_neg h2,if_pos h3]
   obtain⟨K7,g',r1,W'⟩:=key W6 (by rw [aA (by omega)];exact k4) (by rw [ak,he]) (by rw [he];exact hx);refine⟨K7,g',bI rfl rfl (ag8 _ _ _ _ ?_),W'⟩;rw [h3] at lk;simp only [w64] at d1;simp only [Int.reduceEq,xq_,acz,l1,a1,b1,lc,la,el,l0,ef,c1,c2,ew,lk,lv,dW,d1,r1]
  ·have he:eH e o wi=e:=by unfold eH;rw [if_neg h2,if_neg h3]
   obtain⟨K7,g',r1,W'⟩:=key (x:=dat e.data) W5 k4 (by rw [he];exact k9) (by rw [he];exact pY _ _);refine⟨K7,g',bI rfl rfl (ag8 _ _ _ _ ?_),W'⟩;simp only [xq_,acz,l1,a1,b1,lc,la,el,l0,ef,c1,c2,ew,lk,h2,h3,r1]
theorem ads(W:Walk b H g0 S c me k K g ls w)(C:COk w.1.aI)(hd:w.1.aF.data.length < 1000000000)(p:Pkt)(hpl:p.data.length < 1000000000):
  ∃K' g',cl 73 [.ref (S.a 0) 0 0,.agg p.av] K=some (tV (w.1.after me p),K')/\Walk b H g0 S c me k K' g' ls ({ w.1 with aI:=(w.1.after me p).1 },w.2):=by
 have W0:=Walk.of W.loc.good W.base W.Ql;have W1:=W0.newL (ty:=112) (xs:=p.av) (r:=K.next) (aS p) rfl;have W2:=W1.newL (ty:=44) (xs:=zD9) (r:=K.next+1) rfl (by rw [fE]);have k3:iE (iE noL K.next p.av) (K.next+1) zD9 K.next=some p.av:=by rw [aA (by omega),ak]
 have lk:=W2.ldN (i:=12) (v:=I w.1.aF.aO) rfl;have ld:=W2.amy (i:=12) (n:=9) (ys:=w.1.aF.av) rfl rfl (by decide);have li:=W2.ldN (i:=10) (v:=I me) rfl;have lc:=W2.ldN (i:=0) (v:=.ref (S.a 1) 0 0) rfl;have lp:=W2.loc.lda k3 (i:=0) (n:=9) (ys:=p.av) rfl rfl (by decide);have hcache:=W2.loc.obj W2.nw.bn.2.1
 -- the end
 have fin:∀{K3:ah} {r:Nxt},Good b K3 (upd (lay (lay g ls) (iE (iE noL K.next p.av) (K.next+1) zD9)) (S.a 1) (dn r.1))->Step b ((K.new (.blk 0 112 p.av)).new (.blk 0 44 zD9)) K3->w.1.after me p=r->
   ∃K' g',st 9 (.ref (K.next+1) 0 0) (.agg r.2.1.av) K3=some (aZ,K')/\lda 9 (.ref (K.next+1) 0 0) K'=some (.agg r.2.1.av,K')/\Walk b H g0 S c me k K' g' ls ({ w.1 with aI:=(w.1.after me p).1 },w.2):=by
  intro K3 r G s hr;have W3:=W2.aI G s;obtain⟨K4,u1,u2,W4⟩:=W3.whole (r:=K.next+1) (xs:=zD9) ak (n:=9) (vs:=r.2.1.av) rfl rfl (by decide) (bF _);obtain⟨g',W'⟩:=W.app (K':=K4) (w':=({ w.1 with aI:=(w.1.after me p).1 },w.2)) (by
   have:=W4.res;rw [W.len] at this;rw [hr];exact this)
  exact⟨K4,g',u1,u2,W'⟩
 by_cases h1:w.1.aF.aO=1
 ·have hm:w.1.after me p=dQ w.1.aF me w.1.aI p:=by unfold Node.after;rw [if_pos h1]
  obtain⟨K3,a1,a2,a3⟩:=aaF W2.loc.good W2.base hcache C w.1.aF me p hpl;obtain⟨K4,g',u1,u2,W'⟩:=fin a2 a3 hm;refine⟨K4,g',bI rfl rfl (acy _ _ _ _ ?_),W'⟩;rw [h1] at lk;rw [hm];simp only [tV] at a1 ⊢;simp only [Nat.reduceLT,Int.reduceEq,xq_,Zd,aG (aS p),lk,ld,li,lc,lp,a1,u1,u2]
 ·by_cases h2:w.1.aF.aO=2
  ·have hm:w.1.after me p=dS w.1.aF me w.1.aI p:=by unfold Node.after;rw [if_neg h1,if_pos h2]
   obtain⟨K3,a1,a2,a3⟩:=ado W2.loc.good W2.base hcache C w.1.aF me p hd hpl;obtain⟨K4,g',u1,u2,W'⟩:=fin a2 a3 hm;refine⟨K4,g',bI rfl rfl (acy _ _ _ _ ?_),W'⟩;rw [h2] at lk;rw [hm];simp only [tV] at a1 ⊢;simp only [Nat.reduceLT,Int.reduceEq,xq_,Zd,aG (aS p),lk,ld,li,lc,lp,a1,u1,u2]
  ·by_cases h3:w.1.aF.aO=3
   ·have hm:w.1.after me p=eF w.1.aF w.1.aI p:=by unfold Node.after;rw [if_neg h1,if_neg h2,if_pos h3]
    obtain⟨K3,a1,a2,a3⟩:=ahW W2.loc.good W2.base hcache C w.1.aF p me;obtain⟨K4,g',u1,u2,W'⟩:=fin a2 a3 hm;refine⟨K4,g',bI rfl rfl (acy _ _ _ _ ?_),W'⟩;rw [h3] at lk;rw [hm];simp only [tV] at a1 ⊢;simp only [Nat.reduceLT,Int.reduceEq,xq_,Zd,aG (aS p),lk,ld,li,lc,lp,a1,u1,u2]
   ·have hm:w.1.after me p=vN w.1.aI:=by unfold Node.after;rw [if_neg h1,if_neg h2,if_neg h3]
    obtain⟨K4,g',u1,u2,W'⟩:=fin (r:=vN w.1.aI) (by rw [show(vN w.1.aI).1=w.1.aI from rfl,fJ hcache];exact W2.loc.good) (Step.refl _ _) hm;refine⟨K4,g',bI rfl rfl (acy _ _ _ _ ?_),W'⟩;rw [hm];have ez:bd 44 []=some (.agg zD9):=by simp only [xq_,Wn,kE,eu]
    have hz:(vN w.1.aI).2.1.av=zD9:=lG;rw [hz] at u1 u2;simp only [tV,hz];simp only [Nat.reduceLT,xq_,Zd,aG (aS p),lk,h1,h2,h3,ez,u1,u2];rfl
end
def Node.evs(n:Node):Nat:=2*n.bG.bf.length+(if n.bG.dU then 1 else 0)
theorem aaL {c:Cfg}{d:bJ}(h:d.data=[]∨pF c d.data)(me home:Int):(d.ask me home).ok=true->xZ c (d.ask me home):=by
 intro hk;have num:∀v∈d.data,I64 v:=by
  rcases h with h | h
  ·rw [h];intro v hv;cases hv
  ·exact h.2
 refine⟨hk,?_,?_⟩
 ·unfold bJ.ask
  repeat' split
  all_goals (simp [Pkt.zero])
 ·unfold bJ.ask
  repeat' split
  all_goals first | exact num | (intro v hv;cases hv)
theorem xM {c:Cfg}{p:Pkt}(hd:p.data=[])(hk:¬(p.aO=7∨p.aO=9)):p.ok=true->xZ c p:=λh=> ⟨h,λe=> absurd e hk,by rw [hd];intro v hv;cases hv⟩
theorem adt {c:Cfg}{dD:Rows}(hr:∀e∈dD,pF c e.2.data){aj aT head:Int}{data:List Int}(hd:∀v∈data,I64 v):∀e∈(iC c dD aj aT head data).1,pF c e.2.data:=by
 unfold iC;cases ha:jh dD aj with
 | none=> exact hr
 | some r=>
  simp only;split
  ·exact hr
  ·split
   ·exact hr
   ·rename_i h1 h2;intro e he;rcases lS he with rfl | he
    ·simp only;split
     ·exact hr _ (lQ ha)
     ·rename_i h0;simp only [zbe,zah,decide_eq_true_eq,not_or,not_and,Decidable.not_not] at h2;exact⟨h2.2 h0,hd⟩
    ·exact hr e he
theorem Ti {c:Cfg}{me:Int}{h:Home}(hr:∀e∈h.dD,pF c e.2.data){p:Pkt}(hd:∀v∈p.data,I64 v):∀e∈(h.handle c me p).1.dD,pF c e.2.data:=by
 unfold Home.handle;split
 ·exact hr
 split
 ·exact hr
 split
 ·simp only;split <;> exact hr
 ·have key:∀e∈(h.unlock c p).1.dD,pF c e.2.data:=by
   unfold Home.unlock;have hd':∀v∈(if p.flag=true then p.data else []),I64 v:=by
    split
    ·exact hd
    ·intro v hv;cases hv
   generalize (if p.flag=true then p.data else [])=dat at hd' ⊢;split
   ·exact hr
   ·simp only;split
    ·exact adt hr hd'
    ·exact hr
  simp only;split <;> exact key
theorem aaM {c:Cfg}{ca:Cache}(I:Eo c ca)(p:Pkt):Eo c (fK ca p).1/\((fK ca p).2.1.ok=true->xZ c (fK ca p).2.1)/\(fK ca p).1.bZ=ca.bZ/\∀(aj:Int),c.ok=true->ca.full aj=false->(fK ca p).1.full aj=false:=by
 unfold fK;have z:Pkt.zero.ok=true->xZ c Pkt.zero:=xM rfl (by simp [Pkt.zero]);split
 ·exact⟨I,z,rfl,λ_ _ h=> h⟩
 rename_i h1;cases hf:ca.find p.aj with
 | none=> exact⟨I,z,rfl,λ_ _ h=> h⟩
 | some e=>
  obtain⟨he,hl⟩:=(iy I.bg).1 hf;have E:=I.ent e he;simp only [zbe,zaY,not_or,zcb,decide_eq_true_eq] at h1;have put:∀e':Ent,e'.aj=e.aj->e'.data=e.data->Eo c (ca.put e').1/\(ca.put e').1.bZ=ca.bZ/\∀aj,ca.full aj=false->(ca.put e').1.full aj=false:=λe' h2 h3=> by
   have hf':ca.find e'.aj=some e:=by rw [h2,hl];exact hf
   refine⟨I.put (by rw [h2];exact E.lo) (by rw [h2];exact E.hi) (by rw [h3];exact E.dat),by rw [lC I.bg (by rw [h2];exact E.lo) hf'],λaj h=> ?_⟩;rw [ace I.bg (by rw [h2];exact E.lo) hf'];exact h
  simp only;split
  ·rename_i k;have u:=put { e with cO:=false,back:=p.ptr } rfl rfl;exact⟨u.1,λh=> ⟨h,λ_=> E.dat,E.dat.2⟩,u.2.1,λl _ h=> u.2.2 l h⟩
  split
  ·rename_i k;have u:=put { e with fwd:=p.ptr } rfl rfl;exact⟨u.1,xM rfl (by simp only [k];decide),u.2.1,λl _ h=> u.2.2 l h⟩
  split
  ·rename_i k;have u:=put { e with back:=p.ptr } rfl rfl;exact⟨u.1,xM rfl (by simp only [k];decide),u.2.1,λl _ h=> u.2.2 l h⟩
  ·exact⟨I.drop _,λh=> ⟨h,λ_=> E.dat,E.dat.2⟩,CW _ _,λl hc h=> YT hc I h⟩
theorem Eff.evs {c:Cfg}{me:Int}{n:Node}{r:jQ}{t:List Evn}{A:NT}{B:RNT}(E:Eff c me n r t A B)(hb:n.bG.dU=true):A.2.length+n.evs=t.length+A.1.evs:=by
 have h1:A.1.bG=⟨n.bG.ops,n.bG.bf++[A.2.getLast?.elim 0 (·.value)],false⟩:=by rw [E.apl]
 have h2:=E.len;unfold Node.evs;rw [h1,hb];simp only [zao,zal,zan,if_true,zaf,if_false];omega
theorem Xe {ca:Cache}(hl:Lines ca.l){aj:Int}{e:Ent}(h:ca.find aj=some e):(ca.touch aj).find aj=some { e with used:=ca.bZ+1 }:=by
 obtain⟨he,hel⟩:=(iy hl).1 h;rw [xw hl h];unfold Cache.find;rw [iy (Ad hl λy _=> by
  split
  ·rename_i h;rw [h];exact hel
  ·rfl)]
 exact⟨zaG.2 ⟨e,he,by rw [if_pos hel]⟩,hel⟩
theorem Ic {ca:Cache}(hl:Lines ca.l){aj:Int}{e:Ent}(h:ca.find aj=some e):(ca.touch aj).bZ=ca.bZ+1:=by rw [xw hl h]
theorem Qn {f:Fab}{i:Int}{req:Bool}(h:(f.take i req).2=none):(f.take i req).1=f:=by
 unfold Fab.take at h ⊢;split
 ·rename_i hi;rw [if_pos hi] at h;cases hl:(f.port i).pz req with
  | nil=> rfl
  | cons p l=> rw [hl] at h;cases h
 ·rfl
structure adu(m:bW):Prop where
 ok:m.c.ok=true
 len:(m.aH.length:Int)=m.c.aH
 fab:vO m.c m.fab
 bn:∀(i:Nat) n,m.aH[i]?=some n->Wx m.c i n
 evs:m.trace.length=(m.aH.map Node.evs).sum
theorem Tj {α:Type}(f:α->Nat):∀{l:List α} {i:Nat} {a a':α},l[i]?=some a->((l.set i a').map f).sum+f a=(l.map f).sum+f a'
 | [],i,a,a',h=> by simp at h
 | x::l,0,a,a',h=> by
  simp only [zaR,zaa] at h;subst h;simp only [zbQ,zaz,zbS];omega
 | x::l,i+1,a,a',h=> by
  simp only [zbg] at h;have:=Tj f (a':=a') h;simp only [zb4,zaz,zbS];omega
section
variable {b:Nat}{H:ah}{g:bD}{q:Nat}{ca:Cache}
theorem aaN(G:Good b H g)(hb:H.base<=b)(h:g q=some (dn ca))(C:COk ca)(p:Pkt):
  ∃H',cl 130 [.ref q 0 0,.agg p.av] H=some (XH (fK ca p),H')/\Good b H' (upd g q (dn (fK ca p).1))/\Step b H H':=by
 by_cases hx:(!p.ok || decide (p.aO < 3) || decide (6 < p.aO))=true
 ·exact Qk G hb h C p (.inl hx)
 ·cases hf:ca.find p.aj with
  | none=> exact Qk G hb h C p (.inr hf)
  | some e=> exact adq G hb h C p hx hf
end
theorem fok {c:Cfg}(hc:c.ok=true){f:Fab}(F:vO c f):FOk c f:=by
 have B:=EM hc;refine⟨hc,by have:=F.len;have:=B.aH;omega,λp hp s hs=> ?_,λp hp s hs q hq=> ?_⟩
 ·have P:=F.port p hp
  match s,hs with
  | 0,_=> exact P.rq
  | 1,_=> exact P.rin
  | 2,_=> exact P.an
  | 3,_=> exact P.ain
 ·have P:=F.port p hp;have Q:xZ c q:=by
   match s,hs with
   | 0,_=> exact P.pkt q (.inl hq)
   | 1,_=> exact P.pkt q (.inr (.inr (.inl hq)))
   | 2,_=> exact P.pkt q (.inr (.inl hq))
   | 3,_=> exact P.pkt q (.inr (.inr (.inr hq)))
  have:=Q.ok;simp only [Pkt.ok,zah,decide_eq_true_eq] at this;omega
theorem Qo {c:Cfg}{p:Pkt}(Q:xZ c p):p.data.length < 1000000000:=by
 have:=Q.ok;simp only [Pkt.ok,zah,decide_eq_true_eq] at this;omega
structure HSz(h:Home):Prop where
 t:TOk h.aP
 r:∀e∈h.dD,e.2.data.length < 1000000000
theorem Qp {h:Home}(hr:∀e∈h.dD,e.2.data.length < 1000000000)(aj:Int):(jc h.dD aj).data.length < 1000000000:=by
 unfold jc;cases ha:jh h.dD aj with
 | none=> exact(show(0:Nat) < 1000000000 by decide)
 | some r=> exact hr _ (lQ ha)
def nI(c:Cfg)(me:Int)(n:Node)(p:Pkt):Node × Pkt × Bool:=
 if p.aO=1∨p.aO=2 then({ n with home:=(n.home.handle c me p).1 },(n.home.handle c me p).2.1,(n.home.handle c me p).2.2.1 && decide ((n.home.handle c me p).2.2.2=0))
 else({ n with aI:=(fK n.aI p).1 },(fK n.aI p).2.1,decide ((fK n.aI p).2.2=0))
theorem adv(c:Cfg)(me:Int)(n:Node)(f:Fab)(p:Pkt):n.asked c me f p=((nI c me n p).1,if(nI c me n p).2.2=true then(f.send (nI c me n p).2.1).1 else f):=by
 unfold Node.asked nI;split
 ·rcases h:n.home.handle c me p with⟨h1,o,ok,e⟩
  simp
 ·rcases h:fK n.aI p with⟨h1,o,e⟩
  simp
theorem Qq {c:Cfg}{me:Int}{n:Node}(C:COk n.aI)(Z:HSz n.home)(p:Pkt):(nI c me n p).2.1.data.length < 1000000000:=by
 have z0:(0:Nat) < 1000000000:=by decide
 unfold nI;split
 ·simp only [Home.handle]
  repeat' split
  all_goals first | exact z0 | exact Qp Z.r _
 ·simp only [fK];split
  ·exact z0
  ·cases hf:n.aI.find p.aj with
   | none=> exact z0
   | some e=>
    have he:=C.dat e (zba hf);simp only
    repeat' split
    all_goals first | exact z0 | exact he
section
variable {b:Nat}{H:ah}{g0:bD}{S:Iw}{c:Cfg}{me:Int}{k:Nat}{K K':ah}{g:bD}{ls:Lcl}{w w':NFT}
theorem aaO(W:Walk b H g0 S c me k K g ls w)(hc:c.ok=true)(C:COk w.1.aI)(Z:HSz w.1.home)(p:Pkt)(hpl:p.data.length < 1000000000):
  ∃K' g',cl 83 [.ref (S.a 0) 0 0,.agg p.av] K=some (.tup [.agg (nI c me w.1 p).2.1.av,B (nI c me w.1 p).2.2],K')/\Walk b H g0 S c me k K' g' ls ((nI c me w.1 p).1,w.2):=by
 have W0:=Walk.of W.loc.good W.base W.Ql;have W1:=W0.newL (ty:=112) (xs:=p.av) (r:=K.next) (aS p) rfl;have W2:=W1.newL (ty:=112) (xs:=zP9) (r:=K.next+1) rfl (by rw [fE]);have W3:=W2.newL (ty:=112) (xs:=zP9) (r:=K.next+1+1) rfl (by rw [fE,fE]);have k2:iE (iE noL K.next p.av) (K.next+1) zP9 K.next=some p.av:=by rw [aA (by omega),ak]
 have k3:iE (iE (iE noL K.next p.av) (K.next+1) zP9) (K.next+1+1) zP9 K.next=some p.av:=by rw [aA (by omega)];exact k2
 have k4:iE (iE (iE noL K.next p.av) (K.next+1) zP9) (K.next+1+1) zP9 (K.next+1)=some zP9:=by rw [aA (by omega),ak]
 have k5:iE (iE (iE noL K.next p.av) (K.next+1) zP9) (K.next+1+1) zP9 (K.next+1+1)=some zP9:=ak;have lk:=W2.loc.ld k2 (i:=0) (v:=I p.aO) rfl;have lp:=W3.loc.lda k3 (i:=0) (n:=9) (ys:=p.av) rfl rfl (by decide);have lh:=W3.ldN (i:=11) (v:=.ref (S.a 3) 0 0) rfl;have lc:=W3.ldN (i:=0) (v:=.ref (S.a 1) 0 0) rfl
 -- the end
 have fin:∀{K4:ah} {g4:bD} {n':Node} {out:Pkt} {v:AV},Walk b K (lay g ls) S c me w.2.1.l.length K4 g4 (iE (iE (iE noL K.next p.av) (K.next+1) zP9) (K.next+1+1) zP9) (n',w.2)->
   (∀f args,cl f args (((K.new (.blk 0 112 p.av)).new (.blk 0 112 zP9)).new (.blk 0 112 zP9))=some (v,K4)->
   (∀{β:Type} (kk:Option β),ckR (K.next+1+1) (K.next+1+1+1) (((K.new (.blk 0 112 p.av)).new (.blk 0 112 zP9)).new (.blk 0 112 zP9)) K4 kk=kk)/\
   ∃K5 K6 g',st 9 (.ref (K.next+1+1) 0 0) (.agg out.av) K4=some (aZ,K5)/\lda 9 (.ref (K.next+1+1) 0 0) K5=some (.agg out.av,K5)/\st 9 (.ref (K.next+1) 0 0) (.agg out.av) K5=some (aZ,K6)/\lda 9 (.ref (K.next+1) 0 0) K6=some (.agg out.av,K6)/\Walk b H g0 S c me k K6 g' ls (n',w.2)):=by
  intro K4 g4 n' out v W4 f args hcl;refine⟨λkk=> amw λr h1 h2=> ?_,?_⟩
  ·obtain rfl:r=K.next+1+1:=by omega
   exact Vu W3.loc.good W4.loc.good (Vr _ _ _ _ _ hcl) (pO k5) (pO k5)
  ·obtain⟨K5,u1,u2,W5⟩:=W4.whole k5 (n:=9) (vs:=out.av) rfl (bU _) (by decide) (aS _);obtain⟨K6,u3,u4,W6⟩:=W5.whole (r:=K.next+1) (xs:=zP9) (by rw [aA (by omega)];exact k4) (n:=9) (vs:=out.av) rfl (bU _) (by decide) (aS _);obtain⟨g',W'⟩:=W.app (K':=K6) (w':=(n',w.2)) (by
    have:=W6.res;rw [W.len] at this;exact this)
   exact⟨K5,K6,g',u1,u2,u3,u4,W'⟩
 by_cases hk:p.aO=1∨p.aO=2
 ·have hm:nI c me w.1 p=({ w.1 with home:=(w.1.home.handle c me p).1 },(w.1.home.handle c me p).2.1,(w.1.home.handle c me p).2.2.1 && decide ((w.1.home.handle c me p).2.2.2=0)):=by unfold nI;rw [if_pos hk]
  rw [hm];have HI:=W3.Ql.bn.2.2.2;obtain⟨K4,a1,a2,a3⟩:=aax W3.loc.good W3.base HI hc Z.t.nd Z.t.ws Z.r p hpl;have W4:=W3.home a2 a3;obtain⟨ck,K5,K6,g',u1,u2,u3,u4,W'⟩:=fin W4 _ _ a1 (out:=(w.1.home.handle c me p).2.1);refine⟨K6,g',bI rfl rfl (akn _ _ _ _ ?_),W'⟩;simp only [Vt] at a1;obtain⟨ok,hok⟩:∃ok,(w.1.home.handle c me p).2.2.1=ok:=⟨_,rfl⟩
  rw [hok] at a1 ⊢;have cR:∀{β:Type} (kk:Option β),ckR ((K.new (.blk 0 112 p.av)).new (.blk 0 112 zP9)).next (((K.new (.blk 0 112 p.av)).new (.blk 0 112 zP9)).new (.blk 0 112 zP9)).next (((K.new (.blk 0 112 p.av)).new (.blk 0 112 zP9)).new (.blk 0 112 zP9)) K4 kk=kk:=by
   intro β kk;simp only [fE];exact ck kk
  rcases hk with h1 | h1
  ·rw [h1] at lk;cases ok with
   | true=> simp only [Nat.reduceLT,xq_,WH,aG (aS p),lk,lh,lp,a1,ck,u1,u2,u3,u4,zbn]
   | false=> simp only [Nat.reduceLT,xq_,WH,aG (aS p),lk,lh,lp,a1,ck,u1,u2,u3,u4,zbC]
  ·rw [h1] at lk;cases ok with
   | true=> simp only [Nat.reduceLT,Int.reduceEq,xq_,WH,aG (aS p),lk,lh,lp,a1,ck,u1,u2,u3,u4,zbn]
   | false=> simp only [Nat.reduceLT,Int.reduceEq,xq_,WH,aG (aS p),lk,lh,lp,a1,ck,u1,u2,u3,u4,zbC]
 ·have hm:nI c me w.1 p=({ w.1 with aI:=(fK w.1.aI p).1 },(fK w.1.aI p).2.1,decide ((fK w.1.aI p).2.2=0)):=by unfold nI;rw [if_neg hk]
  rw [hm];obtain⟨K4,a1,a2,a3⟩:=aaN W3.loc.good W3.base (W3.loc.obj W3.nw.bn.2.1) C p;have W4:=W3.aI a2 a3;obtain⟨ck,K5,K6,g',u1,u2,u3,u4,W'⟩:=fin W4 _ _ a1 (out:=(fK w.1.aI p).2.1);refine⟨K6,g',bI rfl rfl (akn _ _ _ _ ?_),W'⟩;have h1:¬p.aO=1:=λh=> hk (.inl h);have h2:¬p.aO=2:=λh=> hk (.inr h);simp only [XH] at a1;simp only [Nat.reduceLT,xq_,WH,aG (aS p),lk,h1,h2,lc,lp,a1,ck,u1,u2,u3,u4]
end
end
end Go.Proofs.YtljogojaihgdlaaGreat
