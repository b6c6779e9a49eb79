/-
  Own work: an interpreter over named blocks, its soundness, and what the functions of this seat compute (part 9 of 11).
  Conditions: those of the statement alone.
-/
import Derived.Shelf.SlGeneric
import Derived.Ground.SlgmProg
import Derived.Ground.GgzProg
import Derived.Shelf.SortM.SortNone
import Derived.Shelf.SortM.Plain
import Derived.Shelf.SlIterI.Nil
import Derived.Test.YthmoogcacpmjiaaGreatProg
import Derived.KernelRfl
import Derived.Test.YthmoogcacpmjiaaGreatXh
set_option linter.all false
set_option linter.unusedSectionVars false
set_option linter.unusedVariables false
set_option linter.unusedSimpArgs false
namespace Go.Proofs
open Go.Shelf
def Tryz.sortedA_ren:Go.Shelf.Ren:=⟨fun | 6=> 191 | 8=> 207 | 9=> 56 | 11=> 213 | 13=> 90 | 12=> 89 | 23=> 137 | 24=> 138 | 14=> 128 | 15=> 129 | 16=> 130 | 17=> 131 | 18=> 132 | 19=> 133 | 20=> 134 | 21=> 135 | 22=> 136 | 25=> 172 | 26=> 173 | 27=> 174 | 28=> 175 | 29=> 176 | 30=> 177 | 31=> 201 | n=> n,fun | 26=> 3 | 28=> 289 | 24=> 22 | 0=> 0 | 3=> 3 | 37=> 176 | 48=> 230 | 50=> 232 | 4=> 4 | 40=> 224 | 39=> 223 | 45=> 199 | 5=> 5 | 9=> 9 | 51=> 273 | 55=> 277 | 57=> 295 | 58=> 52 | 33=> 119 | n=> n,fun | n=> n⟩
theorem Tryz.sortedA:Go.Proofs.SlLaysZI.n6 Tryz.prog Tryz.sortedA_ren:={
 mixed:=by kernel_rfl
 f6:=⟨Tryz.f191.name,by decide,Tryz.func191.trans (congrArg some (by kernel_rfl))⟩
 f8:=⟨Tryz.f207.name,by decide,Tryz.func207.trans (congrArg some (by kernel_rfl))⟩
 f11:=⟨Tryz.f213.name,by decide,Tryz.func213.trans (congrArg some (by kernel_rfl))⟩
 t0:=Tryz.underlying0
 a0:=Tryz.isAgg0
 z0:=Tryz.sizeOf0
 v0:=Tryz.zeroValue0
 t24:=Tryz.underlying22
 a24:=Tryz.isAgg22
 z24:=Tryz.sizeOf22
 v24:=Tryz.zeroValue22
 t26:=Tryz.underlying3
 a26:=Tryz.isAgg3
 z26:=Tryz.sizeOf3
 v26:=Tryz.zeroValue3
 t28:=Tryz.underlying289
 a28:=Tryz.isAgg289
 z28:=Tryz.sizeOf289
 v28:=Tryz.zeroValue289
 i26:=by kernel_rfl }
def Tryz.keysA_ren:Go.Shelf.Ren:=⟨fun | 7=> 192 | 10=> 208 | n=> n,fun | 23=> 207 | 26=> 3 | 3=> 291 | 28=> 289 | 0=> 0 | 27=> 288 | 33=> 119 | 4=> 4 | n=> n,fun | n=> n⟩
theorem Tryz.keysA:Go.Proofs.SlLaysZI.n7 Tryz.prog Tryz.keysA_ren:={
 mixed:=by kernel_rfl
 f7:=⟨Tryz.f192.name,by decide,Tryz.func192.trans (congrArg some (by kernel_rfl))⟩
 f10:=⟨Tryz.f208.name,by decide,Tryz.func208.trans (congrArg some (by kernel_rfl))⟩
 t0:=Tryz.underlying0
 a0:=Tryz.isAgg0
 z0:=Tryz.sizeOf0
 v0:=Tryz.zeroValue0
 t4:=Tryz.underlying4
 a4:=Tryz.isAgg4
 z4:=Tryz.sizeOf4
 v4:=Tryz.zeroValue4
 t23:=Tryz.underlying207
 a23:=Tryz.isAgg207
 z23:=Tryz.sizeOf207
 v23:=Tryz.zeroValue207
 t26:=Tryz.underlying3
 a26:=Tryz.isAgg3
 z26:=Tryz.sizeOf3
 v26:=Tryz.zeroValue3
 t27:=Tryz.underlying288
 a27:=Tryz.isAgg288
 z27:=Tryz.sizeOf288
 v27:=Tryz.zeroValue288
 t28:=Tryz.underlying289
 a28:=Tryz.isAgg289
 z28:=Tryz.sizeOf289
 v28:=Tryz.zeroValue289
 t33:=Tryz.underlying119
 a33:=Tryz.isAgg119
 z33:=Tryz.sizeOf119
 v33:=Tryz.zeroValue119 }
def Tryz.sortA_ren:Go.Shelf.Ren:=⟨fun | 5=> 56 | 8=> 90 | 7=> 89 | 19=> 137 | 20=> 138 | 10=> 128 | 11=> 129 | 12=> 130 | 13=> 131 | 14=> 132 | 15=> 133 | 16=> 134 | 17=> 135 | 18=> 136 | 30=> 172 | 31=> 173 | 32=> 174 | 33=> 175 | 34=> 176 | 35=> 177 | 40=> 201 | n=> n,fun | 23=> 22 | 25=> 3 | 3=> 3 | 32=> 176 | 22=> 22 | 0=> 0 | 44=> 230 | 46=> 232 | 4=> 4 | 36=> 224 | 35=> 223 | 41=> 199 | 5=> 5 | 9=> 9 | 53=> 273 | 57=> 277 | 63=> 295 | 64=> 52 | n=> n,fun | n=> n⟩
theorem Tryz.sortA:Go.Proofs.SlLaysM.n5 Tryz.prog Tryz.sortA_ren:={
 mixed:=by kernel_rfl
 f5:=⟨Tryz.f56.name,by decide,Tryz.func56.trans (congrArg some (by kernel_rfl))⟩
 f7:=⟨Tryz.f89.name,by decide,Tryz.func89.trans (congrArg some (by kernel_rfl))⟩
 f8:=Tryz.func90.trans (congrArg some (by kernel_rfl))
 f10:=⟨Tryz.f128.name,by decide,Tryz.func128.trans (congrArg some (by kernel_rfl))⟩
 f11:=⟨Tryz.f129.name,by decide,Tryz.func129.trans (congrArg some (by kernel_rfl))⟩
 f12:=⟨Tryz.f130.name,by decide,Tryz.func130.trans (congrArg some (by kernel_rfl))⟩
 f13:=⟨Tryz.f131.name,by decide,Tryz.func131.trans (congrArg some (by kernel_rfl))⟩
 f14:=⟨Tryz.f132.name,by decide,Tryz.func132.trans (congrArg some (by kernel_rfl))⟩
 f15:=⟨Tryz.f133.name,by decide,Tryz.func133.trans (congrArg some (by kernel_rfl))⟩
 f16:=⟨Tryz.f134.name,by decide,Tryz.func134.trans (congrArg some (by kernel_rfl))⟩
 f17:=⟨Tryz.f135.name,by decide,Tryz.func135.trans (congrArg some (by kernel_rfl))⟩
 f18:=⟨Tryz.f136.name,by decide,Tryz.func136.trans (congrArg some (by kernel_rfl))⟩
 f19:=Tryz.func137.trans (congrArg some (by kernel_rfl))
 f20:=Tryz.func138.trans (congrArg some (by kernel_rfl))
 f30:=⟨Tryz.f172.name,by decide,Tryz.func172.trans (congrArg some (by kernel_rfl))⟩
 f31:=Tryz.func173.trans (congrArg some (by kernel_rfl))
 f32:=Tryz.func174.trans (congrArg some (by kernel_rfl))
 f33:=⟨Tryz.f175.name,by decide,Tryz.func175.trans (congrArg some (by kernel_rfl))⟩
 f34:=⟨Tryz.f176.name,by decide,Tryz.func176.trans (congrArg some (by kernel_rfl))⟩
 f35:=⟨Tryz.f177.name,by decide,Tryz.func177.trans (congrArg some (by kernel_rfl))⟩
 f40:=⟨Tryz.f201.name,by decide,Tryz.func201.trans (congrArg some (by kernel_rfl))⟩
 t0:=Tryz.underlying0
 a0:=Tryz.isAgg0
 z0:=Tryz.sizeOf0
 v0:=Tryz.zeroValue0
 t3:=Tryz.underlying3
 a3:=Tryz.isAgg3
 z3:=Tryz.sizeOf3
 v3:=Tryz.zeroValue3
 t4:=Tryz.underlying4
 a4:=Tryz.isAgg4
 z4:=Tryz.sizeOf4
 v4:=Tryz.zeroValue4
 t5:=Tryz.underlying5
 a5:=Tryz.isAgg5
 z5:=Tryz.sizeOf5
 v5:=Tryz.zeroValue5
 t9:=Tryz.underlying9
 a9:=Tryz.isAgg9
 z9:=Tryz.sizeOf9
 v9:=Tryz.zeroValue9
 t22:=Tryz.underlying22
 a22:=Tryz.isAgg22
 z22:=Tryz.sizeOf22
 v22:=Tryz.zeroValue22
 t23:=Tryz.underlying22
 a23:=Tryz.isAgg22
 z23:=Tryz.sizeOf22
 v23:=Tryz.zeroValue22
 t25:=Tryz.underlying3
 a25:=Tryz.isAgg3
 z25:=Tryz.sizeOf3
 v25:=Tryz.zeroValue3
 t32:=Tryz.underlying176
 a32:=Tryz.isAgg176
 z32:=Tryz.sizeOf176
 v32:=Tryz.zeroValue176
 t35:=Tryz.underlying223
 a35:=Tryz.isAgg223
 z35:=Tryz.sizeOf223
 v35:=Tryz.zeroValue223
 t36:=Tryz.underlying224
 a36:=Tryz.isAgg224
 z36:=Tryz.sizeOf224
 v36:=Tryz.zeroValue224
 t41:=Tryz.underlying199
 a41:=Tryz.isAgg199
 z41:=Tryz.sizeOf199
 v41:=Tryz.zeroValue199
 t44:=Tryz.underlying230
 a44:=Tryz.isAgg230
 z44:=Tryz.sizeOf230
 v44:=Tryz.zeroValue230
 t46:=Tryz.underlying232
 a46:=Tryz.isAgg232
 z46:=Tryz.sizeOf232
 v46:=Tryz.zeroValue232
 t53:=Tryz.underlying273
 a53:=Tryz.isAgg273
 z53:=Tryz.sizeOf273
 v53:=Tryz.zeroValue273
 t57:=Tryz.underlying277
 a57:=Tryz.isAgg277
 z57:=Tryz.sizeOf277
 v57:=Tryz.zeroValue277
 t63:=Tryz.underlying295
 a63:=Tryz.isAgg295
 z63:=Tryz.sizeOf295
 v63:=Tryz.zeroValue295
 t64:=Tryz.underlying52
 a64:=Tryz.isAgg52
 z64:=Tryz.sizeOf52
 v64:=Tryz.zeroValue52 }
end Go.Proofs
namespace Go.Proofs.YthmoogcacpmjiaaGreat
noncomputable section
open Go.RowKit Go.Maps Go.Sort Go.Shelf
theorem agF(m:Nat):AnyZI.SortsIn Tryz.prog Tryz.sortedA_ren Fence.wide m:=
 ⟨λblk off cap ss W hH hblk hsz=> callsIn_wide.2 (AnyM.slices_Sort_int Tryz.sortA blk off cap ss W hH hblk hsz),
  λp cap W=> callsIn_wide.2 (AnyM.slices_Sort_int_none Tryz.sortA p cap W)⟩
abbrev agG:Value->Option (DataW Unit × List MemPlace):=λ_=> some (.lit (.bool true),[])
theorem al6 {ρ:Ren}{H:aj}{w w':World}(R:Rel ρ H w)(hb:Below w.heap.size w w'){v:Value}{zs:List Int}{e:TypeId}(h0:zs≠[])(h:w'.ownsRow w.heap.size e 1 v zs.length (zs.map encZ)):
  RV ρ H.gen w' (.vs zs.length 1 (zs.map λn=> .s (.int .i64 n))) v:=by
 obtain⟨_,⟨rfl,h1⟩ | ⟨gb,cap,cur,rfl,h1,h2,h3,h4,h5,h6⟩⟩:=h
 ·exact absurd (zan h1) h0
 ·simp only [RV];refine⟨gb,0,cap,rfl,h3,by simp,(zbw.1 h2).1,LD R h1,?_⟩;have key:∀(l:List Int) (o:Nat),(∀j,j < l.length->w'.cell? ⟨gb,o+j,none⟩=(l[j]?).map encZ)->RVc ρ H.gen w' (l.map λn=> .s (.int .i64 n)) gb o:=by
   intro l
   induction l with
   | nil=> intro o _;simp only [zbY,RVc]
   | cons a l ih=>
    intro o hc;simp only [zaC,RVc];refine⟨⟨encZ a,by have:=hc 0 (by simp);simpa using this,by simp only [RV]⟩,ih (o+1) λj hj=> ?_⟩;have:=hc (j+1) (by simp only [zak];omega);rw [show o+(j+1)=o+1+j by omega] at this
    simpa using this
  refine key zs 0 λj hj=> ?_;rw [za7,zbt] at*;have hcj:cur.toList[j]?=(zs.map encZ)[j]?:=by rw [<-h6,zaA,if_pos hj]
  rw [zaB] at hcj;unfold World.cell?;simp only [h2,<-hcj,Array.getElem?_toList,zaL,zai,if_false]
theorem Qh:Rj 191 (yV Aj Gm):=by
 have key:∀args H v H',yV Aj Gm args H=some (v,H')->H'=H/\∃f r g,args=[.fn (.func f) [] [.ref r g 0]]/\f≠0/\
   ((∃ty m es,H.get r=.blk g ty [.mp m]/\ty < eH/\H.get m=.map .i64 es/\f∈Aj/\(es.map (·.1)).Nodup/\(es.all λe=> (Lit.int .i64 e.1).wf)=true/\es.length<=1000000/\v=sortL (es.map (·.1)))∨
    (∃ty,H.get r=.blk g ty [.s (.slice none 0 0)]/\ty < eH/\f∈Gm/\v=ait)):=by
  intro args H v H' h;unfold yV at h;split at h
  ·rename_i f r g;split at h
   ·rename_i g' ty m hr;split at h
    ·rename_i es hm;split at h
     ·rename_i hc;obtain⟨rfl,h1,h2,h3,h4,h5,h6⟩:=hc;cases h;exact⟨rfl,f,r,_,rfl,h2,.inl ⟨ty,m,es,hr,h1,hm,h3,h4,h5,h6,rfl⟩⟩
     ·cases h
    ·cases h
   ·rename_i g' ty hr;split at h
    ·rename_i hc;obtain⟨rfl,h1,h2,h3⟩:=hc;cases h;exact⟨rfl,f,r,_,rfl,h2,.inr ⟨ty,hr,h1,h3,rfl⟩⟩
    ·cases h
   ·cases h
  ·cases h
 refine⟨FZ λargs H v H' h ρ w jJ R ha=> ?_,λargs H v H' h=> ?_⟩;rotate_left
 ·rw [(key _ _ _ _ h).1];exact Keeps.refl H
 ·obtain⟨rfl,f,r,g,rfl,hf0,hh⟩:=key _ _ _ _ h;obtain⟨cf,rfl,h1⟩:=Ph ha;simp only [RV] at h1;obtain⟨fa,fc,rfl,h2,h3⟩:=h1;have hfa:fa=#[]:=by simp only [RVs] at h2;exact Array.ext' (by simpa using h2)
  subst hfa;obtain⟨cp,rfl,h4⟩:=Ph h3;simp only [RV] at h4;obtain⟨a,rfl,h5,h6⟩:=h4;rcases hh with⟨ty,m,es,hr,hty,hm,hk,hnd,hwf,hlen,rfl⟩ | ⟨ty,hr,hty,hv,rfl⟩
  ·have hg:H'.gen r=g:=by simp [aj.gen,hr,dR.gen]
   obtain⟨b,sh,h7,rfl⟩:=h6 hg;have sF:=R.obj r b sh h7;simp only [vX,hr] at sF;obtain⟨cs,e,o1,o2,o3,o4⟩:=sF;obtain⟨o5,rfl,o7⟩:=o4.1 hty;simp only [RVc] at o3;obtain⟨⟨mv,o8,o9⟩,_⟩:=o3;simp only [RV] at o9;obtain⟨bm,rfl,o10⟩:=o9;have o11:=o10 (by simp [aj.gen,hm,dR.gen]);have hmo:=R.obj m bm 0 o11;simp only [vX,hm] at hmo;obtain⟨ces,clock,m1,_,m3,m4⟩:=hmo;have hkeys:ces.toList.map (λx=> x.key)=(es.map (·.1)).map encZ:=by
    have:∀(es:List (Int × AV)) (l:List MapEntry),RVm ρ H'.gen w .i64 es l->l.map (λx=> x.key)=(es.map (·.1)).map encZ:=by
     intro es
     induction es with
     | nil=> intro l hl;simp only [RVm] at hl;subst hl;rfl
     | cons x es ih=>
      intro l hl;obtain⟨n,y⟩:=x;simp only [RVm] at hl;obtain⟨e,es',rfl,k1,_,k3⟩:=hl;simp only [zaC,k1,ih es' k3]
    exact this es _ m3
   have hsz:ces.size=es.length:=by
    have:=congrArg List.length hkeys
    simpa using this
   have hrd:∀x∈ces.toList,∃n,n∈es.map (·.1)/\x.key=encZ n/\Go.WideElems.rd Tryz.prog 3 agG x=some (.int .i64 n,.lit (.bool true)):=by
    intro x hx;have hx':x.key∈(es.map (·.1)).map encZ:=by rw [<-hkeys];exact zaN.2 ⟨x,hx,rfl⟩
    obtain⟨n,hn,hxn⟩:=zaN.1 hx';refine⟨n,hn,hxn.symm,?_⟩;have hw:(Lit.int .i64 n).wf=true:=by
     obtain⟨e,he,rfl⟩:=zaN.1 hn;exact zaZ.1 hwf e he
    have hko:keyOf Tryz.prog 3 x.key=some (.int .i64 n):=by
     rw [<-hxn];simp [keyOf,mapKey,Tryz.underlying3,hw]
    exact Go.WideElems.rd_mk (R:=agG) (key:=x.key) (val:=x.val) (born:=x.born) (yv:=(.lit (.bool true),[])) hko rfl
   have aqn:(ces.toList.map (λx=> x.key)).Nodup:=by
    rw [hkeys];exact zb5.2 (hnd.imp λhab he=> hab (encZ_inj he))
   let D0:DataW Unit:=.map ((ces.toList.map (Go.WideElems.rg Tryz.prog 3 agG)).foldr DataW.insert []);have hown:w.ownsMap Tryz.prog 3 agG bm ces.size D0:=⟨ces,clock,m1,⟨by rw [hsz];unfold maxLen;omega,⟨m4.1,m4.2,aqn⟩,λx hx=> by
    obtain⟨n,_,_,h⟩:=hrd x hx;exact⟨_,h⟩⟩,zac _,rfl⟩
   have hik:(intKeys D0).Perm (es.map (·.1)):=by
    have p1:((ces.toList.map (Go.WideElems.rg Tryz.prog 3 agG)).foldr DataW.insert []).Perm (ces.toList.map (Go.WideElems.rg Tryz.prog 3 agG)):=Go.WideShapes.sorted_perm _;have p2:=p1.map λp=> Go.intOf p.1;refine p2.trans ?_;have:(ces.toList.map (Go.WideElems.rg Tryz.prog 3 agG)).map (λp=> Go.intOf p.1)=es.map (·.1):=by
     rw [List.map_map];have hinj:∀a b:List Int,a.map encZ=b.map encZ->a=b:=λa b h=> by
      have:=congrArg (List.map λv:Value=> match v with | .int _ n=> n | _=> 0) h
      simpa [List.map_map,Function.comp_def,encZ] using this
     refine hinj _ _ ?_;rw [<-hkeys,List.map_map];refine zbA λx hx=> ?_;obtain⟨n,_,hxn,hr⟩:=hrd x hx;simp only [Function.comp_apply,Go.WideElems.rg_of hr,Go.intOf,hxn]
    rw [this]
   have hms:Maps.size D0=es.length:=by
    show((ces.toList.map _).foldr DataW.insert []).length=_;rw [(Go.WideShapes.sorted_perm _).length_eq,zaE,Array.length_toList,hsz]
   have hbl:b < w.heap.size:=(zbw.1 o1).1;obtain rfl:f=208:=by
    simp only [Aj,zam,zaI,or_false] at hk;rcases hk with hk | hk
    ·exact hk
    ·exact absurd hk hf0
   have hseq:SeqGives Fence.wide 2 Tryz.prog 208 #[.pointer (some ⟨b,0,none⟩)] encZ (λss=> ss.Perm (intKeys D0)) (Maps.size D0) w:=
    AnyZI.keys_gives (ρ:=Tryz.keysA_ren) { Tryz.keysA with } Fence.wide _ trivial rfl (by omega) b bm _ D0 w hbl o8 hown
   have cS:=AnyZI.sorted_in Tryz.sortedA Fence.wide 5 trivial trivial trivial trivial rfl (by omega) (agF _) (enters_of Tryz.func56 (by kernel_rfl) rfl) 208 #[.pointer (some ⟨b,0,none⟩)] trivial (enters_of Tryz.func208 (by kernel_rfl) rfl) _ _ (by rw [hms];unfold maxLen;omega) (by rw [hms];omega) _ hseq;refine((callsIn_wide (n:=5)).1 cS).mono λe w' ⟨v,ss,he,hp,hrow,hnil,hB⟩=> ?_;obtain⟨r1,r2⟩:=DU R hB;have hpp:=hp.trans hik;refine⟨v,ρ,he,r1,?_,r2⟩;unfold sortL;split
   ·rename_i hz;rw [hz] at hpp;have:=hnil.2 hpp.eq_nil;subst this;simp only [ait,RV]
   ·rename_i hz;have hlen2:ss.length=(es.map (·.1)).length:=hpp.length_eq;rw [mergeSort_of_perm_i hpp] at hrow;have hml:((es.map (·.1)).mergeSort leI).length=(es.map (·.1)).length:=List.length_mergeSort _;have:=al6 R hB (zs:=(es.map (·.1)).mergeSort leI) (λh=> hz (by
     rw [h] at hml;exact zan hml.symm)) (by rw [hml,<-hlen2];exact hrow)
    rw [hml] at this;exact this
  ·have hg:H'.gen r=g:=by simp [aj.gen,hr,dR.gen]
   obtain⟨b,sh,h7,rfl⟩:=h6 hg;have sF:=R.obj r b sh h7;simp only [vX,hr] at sF;obtain⟨cs,e,o1,o2,o3,o4⟩:=sF;obtain⟨o5,rfl,o7⟩:=o4.1 hty;simp only [RVc] at o3;obtain⟨⟨mv,o8,o9⟩,_⟩:=o3;simp only [RV] at o9;subst o9;have hbl:b < w.heap.size:=(zbw.1 o1).1;simp only [Gm,zam,zaI,or_false] at hv;exact absurd hv hf0
open Go.RowKit
theorem agH:∀x∈afx,Rj x.1 x.2:=by
 unfold afx;refine zb4.2 ⟨Qh,?_⟩;refine zb4.2 ⟨afy _,?_⟩;refine zb4.2 ⟨Qg,?_⟩;refine zb4.2 ⟨afy _,?_⟩;refine zb4.2 ⟨afy _,?_⟩;refine zb4.2 ⟨⟨λf args H v H' h=> ?_,λargs H v H' h=> (by cases h)⟩,λx hx=> (by cases hx)⟩;simp only at h;split at h <;> cases h
theorem GL {α:Type}{f:Nat}{p:α}:∀{l:List (Nat × α)},l.lookup f=some p->(f,p)∈l
 | [],h=> by cases h
 | (k,q)::l,h=> by
  rw [List.lookup_cons] at h;split at h
  ·rename_i e;cases h;rw [beq_iff_eq] at e;subst e;simp
  ·exact zbT _ (GL h)
theorem al7:Uc Tryz.prog pol:=λf p h=> agH (f,p) (GL h)
theorem JI:jB cl:=(callω_ok (P:=Tryz.prog) al7 (by kernel_rfl)).2
open Go.ChangeShapes Go.WideShapes Go.ChangeAt Go.RowKit
theorem ao2:Uc Tryz.prog pol:=
 al7
theorem aqo {w:World}:ZI ρ0 w:=⟨λb hb=> (by cases hb),trivial⟩
theorem ao3:ownKnob Tryz.prog.godebug=none:=by kernel_rfl
theorem al8:laidOutB Tryz.prog=true:=by kernel_rfl
theorem agI:Tryz.prog.follows .mixedOrders=true:=by kernel_rfl
theorem abJ:Tryz.prog.cellTypes Tryz.prog.depth 24=some [3,3,3,3,3,3,3,22,22,22,22,22]:=by kernel_rfl
set_option maxRecDepth 100000 in
theorem al9 {H:Type}{enc:TypeId × Value->H}{W:World}{r:Reach}{b0 base:Nat}{sp:Nat->Bool}{held:Bool}{v:Value}{d:DataW H}{ps:List MemPlace}(hval:Value.okWide Tryz.prog W r b0 24 v)(h:DataW.Trod enc Tryz.prog W base sp held 24 v d ps):
  ∃(s:jD) (zi zw zk za zv:List Int),RV ρ0 G0 W (.agg s.cells) v/\s.Ok zi zw zk za zv:=
 Ui Tryz.underlying24 abJ (by kernel_rfl) (by kernel_rfl) Tryz.underlying3 (by kernel_rfl) Tryz.underlying22 (by kernel_rfl) Tryz.underlying3 (by kernel_rfl) hval h
set_option maxRecDepth 100000 in
theorem ama:WG Tryz.prog 38 aiB:=by
 refine O9 Tryz.underlying38 (by kernel_rfl) rfl λi f k h1 h2=> ?_
 match i,h1,h2 with
 | 0,h1,h2=> simp at h1 h2;subst h1;subst h2;exact⟨Tryz.underlying3,rfl,by kernel_rfl⟩
 | 1,h1,h2=> simp at h1 h2;subst h1;subst h2;exact⟨Tryz.underlying3,rfl,by kernel_rfl⟩
 | 2,h1,h2=> simp at h1 h2;subst h1;subst h2;exact⟨Tryz.underlying3,rfl,by kernel_rfl⟩
 | 3,h1,h2=> simp at h1 h2;subst h1;subst h2;exact⟨Tryz.underlying33,rfl,by kernel_rfl⟩
 | i+4,h1,h2=> simp at h2
set_option maxRecDepth 100000 in
theorem YZ {H:Type}{enc:TypeId × Value->H}{W:World}{r:Reach}{b0 base:Nat}{sp:Nat->Bool}{held:Bool}{v:Value}{d:DataW H}{ps:List MemPlace}(hval:Value.okWide Tryz.prog W r b0 25 v)(h:DataW.Trod enc Tryz.prog W base sp held 25 v d ps):
  ∃(x:AV) (cs:List Cho),RV ρ0 G0 W x v/\ado x cs:=
 LW Tryz.underlying25 (by kernel_rfl) ama hval h
theorem Tf(p:Pkt){d:Nat}:∀x∈p.av,Frz (d+2) x:=λx hx=> by
 simp only [Pkt.av,zam,zaI,or_false] at hx;rcases hx with rfl | rfl | rfl | rfl | rfl | rfl | rfl | rfl | rfl <;> first | exact dW | exact rE
section
variable {b:Nat}{H:aj}{g:Store}{q:Nat}
theorem amP(a c:Bool):bi .neq 4 (B a) (B c)=some (B (a !=c)):=by
 rw [abx];cases a <;> cases c <;> rfl
theorem amb(G:Good b H g)(hb:H.base<=b){c:Cfg}{rows:Rows}(h:g q=some (AL c rows))(line state head:Int)(data:List Int)(hl:data.length < 1000000000):
  ∃H',cl 209 [.ref q 0 0,I line,I state,I head,dat data] H=some (I (setRow c rows line state head data).2,H')/\Good b H' (upd g q (AL c (setRow c rows line state head data).1))/\Step b H H':=by
 obtain⟨r,f1,f2,_⟩:=G.map h (i:=8) rfl;have f3:=f2 (.agg #[.int .i64 0,.int .i64 0,.slice none 0 0]) line true;rw [uS] at f3;have hb0:H.base<=H.next:=zaz hb G.1
 refine jw rfl rfl (aly _ _ _ _ _ _ _) ?_;cases hr:je rows line with
 | none=>
  simp only [hr,Option.map_none,if_true] at f3;have hp:setRow c rows line state head data=(rows,3):=by simp only [setRow,hr]
  have zc:AV.cells (.s (.agg #[.int .i64 0,.int .i64 0,.slice none 0 0]))=[zI,zI,zN]:=rfl;have zn:zN.aH=true:=rfl;rw [hp];refine⟨H.new (.blk 0 100 [zI,zI,zN]),?_,by rw [dO h];exact G.new _,Step.new _ G.1⟩;simp -implicitDefEqProofs only [Int.reduceNeg,Nat.reduceAdd,setAt,xq_,hq_,vV,f1,f3,zc,zn,hb0,zal]
 | some w=>
  simp only [hr,zah,if_true] at f3;let H1:=H.new (.blk 0 100 w.av);have G1:Good b H1 g:=G.new _;have l0:=G1.load h (i:=0) (x:=I c.nodes) rfl;have l2:=G1.load h (i:=2) (x:=I c.words) rfl;have e2:=λH=> (jr H data).lnS;have e5:=λH=> jf H data hl;by_cases hbad:state < 0∨2 < state∨head < -1∨c.nodes<=head
  ·have hp:setRow c rows line state head data=(rows,1):=by simp only [setRow,hr];rw [if_pos hbad]
   rw [hp];refine⟨H1,?_,by rw [dO h];exact G1,Step.new _ G.1⟩;simp only [H1] at l0 l2;by_cases s0:state < 0
   ·simp -implicitDefEqProofs only [Int.reduceNeg,Nat.reduceAdd,setAt,xq_,hq_,vV,f1,f3,hb0,zae,s0];rfl
   ·by_cases s2:2 < state
    ·simp -implicitDefEqProofs only [Int.reduceNeg,Nat.reduceAdd,setAt,xq_,hq_,vV,f1,f3,hb0,zae,s0,s2];rfl
    ·by_cases s3:head < -1
     ·simp -implicitDefEqProofs only [Int.reduceNeg,Nat.reduceAdd,setAt,xq_,hq_,vV,f1,f3,hb0,zae,s0,s2,s3];rfl
     ·have s4:c.nodes<=head:=by omega
      simp -implicitDefEqProofs only [Int.reduceNeg,Nat.reduceAdd,setAt,xq_,hq_,vV,f1,f3,hb0,zae,s0,s2,s3,l0,s4];rfl
  ·have s0:¬state < 0:=λh=> hbad (.inl h);have s2:¬2 < state:=λh=> hbad (.inr (.inl h));have s3:¬head < -1:=λh=> hbad (.inr (.inr (.inl h)));have s4:¬c.nodes<=head:=λh=> hbad (.inr (.inr (.inr h)));have hdl:decide (data≠[])=decide ((data.length:Int)≠0):=by
    cases data with
    | nil=> rfl
    | cons a l=>
     have:((a::l).length:Int)≠0:=by simp only [zak];omega
     simp only [this,ne_eq,not_false_eq_true,decide_true];rfl
   by_cases hw:((decide (head=-1) !=decide (state=0)) || (decide (data≠[]) && decide ((data.length:Int)≠c.words)))=true
   ·have hp:setRow c rows line state head data=(rows,1):=by simp only [setRow,hr];rw [if_neg hbad,if_pos hw]
    rw [hp];refine⟨H1,?_,by rw [dO h];exact G1,Step.new _ G.1⟩;simp only [H1] at l0 l2;rw [hdl] at hw;cases hx:(decide (head=-1) !=decide (state=0)) with
    | true=>
     simp -implicitDefEqProofs only [Int.reduceNeg,Nat.reduceAdd,setAt,xq_,hq_,vV,f1,f3,hb0,zae,s0,s2,s3,l0,s4,amP,hx];rfl
    | false=>
     rw [hx,zbH,zaj] at hw;have w1:¬(data.length:Int)=0:=of_decide_eq_true hw.1;have w2:¬(data.length:Int)=c.words:=of_decide_eq_true hw.2;simp -implicitDefEqProofs only [Int.reduceNeg,Nat.reduceAdd,Nat.reduceLeDiff,setAt,xq_,hq_,vV,f1,f3,hb0,zae,zal,s0,s2,s3,l0,s4,amP,hx,e2,w1,l2,w2];rfl
   ·have hp:setRow c rows line state head data=(mM rows line ⟨state,head,if data=[] then w.data else data⟩,0):=by simp only [setRow,hr];rw [if_neg hbad,if_neg hw]
    rw [hp];rw [hdl] at hw;have hx:(decide (head=-1) !=decide (state=0))=false:=by cases h1:(decide (head=-1) !=decide (state=0)) <;> simp_all
    rw [hx,zbH] at hw;let nr:Row:=⟨state,head,if data=[] then w.data else data⟩
    let H2:=H.new (.blk 0 100 nr.av);have G2:Good b H2 g:=G.new _;obtain⟨r',k1,_,_,k2⟩:=G2.map h (i:=8) rfl;obtain⟨H',m1,m2,m3,m4⟩:=(k2 hb).1 line (.agg nr.av);refine⟨H',?_,?_,(Step.new _ G.1).trans m3⟩
    ·simp only [H1,Row.av] at l0 l2;simp only [H2,nr,Row.av] at k1 m1;by_cases hd:data=[]
     ·subst hd;simp only [if_true] at k1 m1;have z1:((([]:List Int).length:Nat):Int)=0:=rfl;have z2:(((0:Nat)):Int)=0:=rfl;simp -implicitDefEqProofs only [Int.reduceLT,Int.reduceNeg,Nat.reduceAdd,setAt,xq_,hq_,vV,Cb,f1,f3,hb0,zae,s0,s2,s3,l0,s4,amP,hx,e2,z2,Row.av,k1,m1]
     ·have w1:¬(data.length:Int)=0:=λh=> hd (zan (by omega));have w3:(0:Int) < data.length:=by omega
      have w2:(data.length:Int)=c.words:=by
       rw [decide_eq_true (show(data.length:Int)≠0 from w1),zaO] at hw;exact Classical.byContradiction λh=> hw (decide_eq_true h)
      simp only [hd,if_false] at k1 m1;rw [w2] at w1 w3;simp -implicitDefEqProofs only [Int.reduceNeg,Nat.reduceAdd,setAt,xq_,hq_,vV,Cb,f1,f3,hb0,zae,zal,s0,s2,s3,l0,s4,amP,hx,e2,w2,l2,w1,w3,e5,Row.av,k1,m1]
    ·rw [DN (λr:Row=> AV.agg r.av)] at m2;exact m2
end
theorem UO {c:Cfg}{rows:Rows}{line state head:Int}{data:List Int}(h:(setRow c rows line state head data).2≠0):(setRow c rows line state head data).1=rows:=by
 unfold setRow at h ⊢;cases hr:je rows line with
 | none=> rfl
 | some w=>
  rw [hr] at h;simp only at h ⊢;split at h
  ·rename_i h1;rw [if_pos h1]
  ·rename_i h1;rw [if_neg h1];split at h
   ·rename_i h2;rw [if_pos h2]
   ·exact absurd rfl h
section
variable {b:Nat}{H:aj}{g:Store}{q d tt:Nat}{c:Cfg}{me:Int}{h:Home}
theorem kW.sub {g':Store}(N:kW g q d tt c me h)(hs:pO g g'):kW g' q d tt c me h:=⟨hs _ _ N.1,hs _ _ N.2.1,hs _ _ N.2.2⟩
theorem GN(G:Good b H g)(N:kW g q d tt c me h)(hd:∀e∈h.rows,e.2.data.length < 1000000000)(line who id:Int):
  cl 162 [.ref q 0 0,I line,I who,I id] H=some (.agg (granted h.rows me line who id).av,H):=by
 refine aW rfl rfl (akP _ _ _ _ _ _) ?_ (kD (Tf _));have G1:=G.guard.new (.blk 0 70 [zI,zI,zI,zI,zI,zI,zI,zB,zN]);have l1:=G1.load N.1 (i:=0) (x:=.ref d 0 0) rfl;have e1:=alQ G1 N.2.1 hd line;have G2:=G1.new (.blk 0 100 (rowOf h.rows line).av);have l2:=G2.load N.1 (i:=10) (x:=I me) rfl;have lr0:(rowOf h.rows line).av[0]?=some (I (rowOf h.rows line).state):=rfl;have lr1:(rowOf h.rows line).av[1]?=some (I (rowOf h.rows line).head):=rfl;have lr2:(rowOf h.rows line).av[2]?=some (dat (rowOf h.rows line).data):=rfl;simp -implicitDefEqProofs only [Nat.reduceAdd,Nat.reduceLeDiff,setAt,xq_,hq_,ad6,l1,e1,l2,lr0,lr1,lr2,wF,gV,dM,O4,granted,Pkt.av]
def jL(g:Store)(d tt:Nat)(c:Cfg)(h:Home):Store:=upd (upd g d (AL c h.rows)) tt (fZ h.turns)
theorem kW.ne(N:kW g q d tt c me h):q≠d/\q≠tt/\d≠tt:=by
 refine⟨λe=> ?_,λe=> ?_,λe=> ?_⟩
 ·have h1:=N.1;have h2:=N.2.1;subst e;rw [h1] at h2;have:=congrArg List.length (za3 h2);simp [AO,AL,Cfg.av] at this
 ·have h1:=N.1;have h2:=N.2.2;subst e;rw [h1] at h2;have:=congrArg List.length (za3 h2);simp [AO,fZ,Cfg.av] at this
 ·have h1:=N.2.1;have h2:=N.2.2;subst e;rw [h1] at h2;have:=congrArg List.length (za3 h2);simp [AL,fZ,Cfg.av] at this
theorem kW.agJ(N:kW g q d tt c me h)(h':Home):kW (jL g d tt c h') q d tt c me h':=by
 obtain⟨n1,n2,n3⟩:=N.ne;exact⟨by unfold jL;rw [upd_ne n2,upd_ne n1];exact N.1,by unfold jL;rw [upd_ne n3,upd_same],by unfold jL;rw [upd_same]⟩
theorem Cj(N:kW g q d tt c me h):jL g d tt c h=g:=by
 obtain⟨n1,n2,n3⟩:=N.ne;unfold jL;rw [dO N.2.1,dO N.2.2]
theorem NH {g':Store}(h:pO g g')(h':Home):pO (jL g d tt c h') (jL g' d tt c h'):=(h.both d _).both tt _
theorem wM(N:kW g q d tt c me h)(t:Turns):jL g d tt c { h with turns:=t }=upd g tt (fZ t):=by
 unfold jL;rw [dO N.2.1]
theorem Y0(G:Good b H g)(hb:H.base<=b)(N:kW g q d tt c me h)(p:Pkt)(hl:p.data.length < 1000000000):
  ∃H',cl 196 [.ref q 0 0,.agg p.av] H=some (I (h.unlock c p).2,H')/\Good b H' (jL g d tt c (h.unlock c p).1)/\Step b H H':=by
 have hb0:H.base<=H.next:=zaz hb G.1
 obtain⟨n1,n2,n3⟩:=N.ne;refine jw rfl rfl (aln _ _ _ _) ?_;let H1:=H.new (.blk 0 70 p.av);have G1:=G.newObj (ty:=70) (xs:=p.av) (aJ p);have S1:pO g (upd g H.next (p.av.map Cell.av)):=(pO.refl g).more (G.isNone (zac _)) _;have N1:=N.sub S1;have l1:=G1.load N1.1 (i:=1) (x:=.ref tt 0 0) rfl;have o1:=UH G1.guard N1.2.2 p.line;have p1:=G1.load upd_same (i:=1) (x:=I p.src) rfl;have p4:=G1.load upd_same (i:=4) (x:=I p.line) rfl;have p5:=G1.load upd_same (i:=5) (x:=I p.ptr) rfl;have p6:=G1.load upd_same (i:=6) (x:=I p.state) rfl;have p7:=G1.load upd_same (i:=7) (x:=B p.flag) rfl;have p8:=G1.load upd_same (i:=8) (x:=dat p.data) rfl;by_cases ho:h.turns.owner p.line=p.src;rotate_left
 ·have hp:h.unlock c p=(h,6):=by simp only [Home.unlock];rw [if_pos ho]
  rw [hp,Cj N];refine⟨H1,?_,G1.sub S1,Step.new _ G.1⟩;simp -implicitDefEqProofs only [Nat.reduceLT,xq_,Gs,aB (aJ p),l1,p4,o1,p1,ho,zal];rfl
 ·have l0:=G1.load N1.1 (i:=0) (x:=.ref d 0 0) rfl;let dd:=if p.flag then p.data else [];obtain⟨H2,s1,s2,s3⟩:=amb G1 (by rw [bNew];exact hb) N1.2.1 p.line p.state p.ptr dd (by simp only [dd];split <;> first | exact hl | exact(by simp));have hd0:dat ([]:List Int)=zN:=by simp [dat,dQ]
  have fl:∀k:AV->Option (AV × aj),(if p.flag=true then k (dat p.data) else k zN)=k (dat dd):=λk=> by
   simp only [dd];cases p.flag with
   | true=> rfl
   | false=> simp only [zai,if_false,hd0]
  by_cases hz:(setRow c h.rows p.line p.state p.ptr dd).2=0;rotate_left
  ·have hp:h.unlock c p=(h,(setRow c h.rows p.line p.state p.ptr dd).2):=by
    simp only [Home.unlock];rw [if_neg (λhn=> hn ho),if_neg hz]
   rw [hp,Cj N];rw [UO hz,dO N1.2.1] at s2;refine⟨H2,?_,s2.sub S1,(Step.new _ G.1).trans s3⟩;have hz':¬(setRow c h.rows p.line p.state p.ptr dd).2=0:=hz;cases hf:p.flag with
   | true=>
    have:dd=p.data:=by simp only [dd,hf,if_true]
    rw [this] at s1 hz' ⊢;rw [hf] at p7;simp -implicitDefEqProofs only [Nat.reduceLT,xq_,Gs,uX,aB (aJ p),l1,p4,o1,p1,ho,zae,p7,p8,l0,p6,p5,s1,hz',zal]
   | false=>
    have:dd=[]:=by simp only [dd,hf,zai,if_false]
    rw [this,hd0] at s1;rw [this] at hz' ⊢;rw [hf] at p7;simp -implicitDefEqProofs only [Nat.reduceLT,xq_,Gs,uX,aB (aJ p),l1,p4,o1,p1,ho,zae,p7,p8,l0,p6,p5,s1,hz',zal]
  ·have hp:h.unlock c p=(⟨(setRow c h.rows p.line p.state p.ptr dd).1,(h.turns.release p.line p.src).1⟩,(h.turns.release p.line p.src).2):=by
    simp only [Home.unlock];rw [if_neg (λhn=> hn ho),if_pos hz]
   rw [hp];have hqn:=G.ne N.2.2;have hdn:=G.ne N.2.1;have hhn:=G.ne N.1;have k1:upd (upd g H.next (p.av.map Cell.av)) d (AL c (setRow c h.rows p.line p.state p.ptr dd).1) H.next=some (p.av.map Cell.av):=by rw [upd_ne hdn.symm,upd_same]
   have k2:upd (upd g H.next (p.av.map Cell.av)) d (AL c (setRow c h.rows p.line p.state p.ptr dd).1) q=some (AO d tt c me):=by rw [upd_ne n1];exact N1.1
   have k3:upd (upd g H.next (p.av.map Cell.av)) d (AL c (setRow c h.rows p.line p.state p.ptr dd).1) tt=some (fZ h.turns):=by rw [upd_ne n3.symm];exact N1.2.2
   have r1:=s2.load k1 (i:=1) (x:=I p.src) rfl;have r4:=s2.load k1 (i:=4) (x:=I p.line) rfl;have rl:=s2.load k2 (i:=1) (x:=.ref tt 0 0) rfl;obtain⟨H3,t1,t2,t3⟩:=Ny s2 (by rw [s3.base,bNew];exact hb) k3 p.line p.src;refine⟨H3,?_,t2.sub (NH S1 _),((Step.new _ G.1).trans s3).trans t3⟩;rw [hz] at s1;cases hf:p.flag with
   | true=>
    have:dd=p.data:=by simp only [dd,hf,if_true]
    rw [this] at s1;rw [hf] at p7;simp -implicitDefEqProofs only [Nat.reduceLT,xq_,Gs,uX,aB (aJ p),l1,p4,o1,p1,ho,zae,p7,p8,l0,p6,p5,s1,rl,r1,r4,t1]
   | false=>
    have:dd=[]:=by simp only [dd,hf,zai,if_false]
    rw [this,hd0] at s1;rw [hf] at p7;simp -implicitDefEqProofs only [Nat.reduceLT,xq_,Gs,uX,aB (aJ p),l1,p4,o1,p1,ho,zae,p7,p8,l0,p6,p5,s1,rl,r1,r4,t1]
end
section
variable {b:Nat}{H:aj}{g:Store}{q d tt:Nat}{c:Cfg}{me:Int}{h:Home}
abbrev zP9:List AV:=[zI,zI,zI,zI,zI,zI,zI,zB,zN]
def Ti(r:Home × Pkt × Bool × Int):AV:=.tup [.agg r.2.1.av,B r.2.2.1,I r.2.2.2]
theorem Y1(G:Good b H g)(hb:H.base<=b)(N:kW g q d tt c me h)(hc:c.ok=true)(hw:(h.turns.wait.map (·.1)).Nodup)(hwl:∀line,(h.turns.ws line).length < 1000000)(hr:∀e∈h.rows,e.2.data.length < 1000000000)(p:Pkt)(hl:p.data.length < 1000000000):
  ∃H',cl 164 [.ref q 0 0,.agg p.av] H=some (Ti (h.handle c me p),H')/\Good b H' (jL g d tt c (h.handle c me p).1)/\Step b H H':=by
 have hb0:H.base<=H.next:=zaz hb G.1
 obtain⟨n1,n2,n3⟩:=N.ne;refine jw rfl rfl (akS _ _ _ _) ?_;let H1:=H.new (.blk 0 70 p.av);let H2:=H1.new (.blk 0 70 zP9);have Ga:=G.newObj (ty:=70) (xs:=p.av) (aJ p);have G2:=Ga.newObj (ty:=70) (xs:=zP9) rfl;let g2:=upd (upd g H.next (p.av.map Cell.av)) (H.next+1) (zP9.map Cell.av);have e12:(H.new (.blk 0 70 p.av)).next=H.next+1:=nNew
 have S2:pO g g2:=((pO.refl g).more (G.isNone (zac _)) _).more (G.isNone (za9 _)) _;have N2:=N.sub S2;have st2:Step b H H2:=(Step.new _ G.1).trans (Step.new _ (G.new _).1);have hp1:g2 H.next=some (p.av.map Cell.av):=by simp only [g2];rw [upd_ne (by omega),upd_same]
 have hp2:g2 (H.next+1)=some (zP9.map Cell.av):=upd_same;have G2':Good b H2 g2:=G2;have p0:=G2'.load hp1 (i:=0) (x:=I p.kind) rfl;have p1:=G2'.load hp1 (i:=1) (x:=I p.src) rfl;have p2:=G2'.load hp1 (i:=2) (x:=I p.dst) rfl;have p3:=G2'.load hp1 (i:=3) (x:=I p.id) rfl;have p4:=G2'.load hp1 (i:=4) (x:=I p.line) rfl;have pa:=G2'.loads hp1 (i:=0) (n:=9) (xs:=p.av) rfl rfl (by decide);have l10:=G2'.load N2.1 (i:=10) (x:=I me) rfl;have l2:=G2'.load N2.1 (i:=2) (x:=I c.nodes) rfl;have l3:=G2'.load N2.1 (i:=3) (x:=I c.lines) rfl;have la:=G2'.loads N2.1 (i:=2) (n:=8) (xs:=c.av) rfl rfl (by decide);have lt:=G2'.load N2.1 (i:=1) (x:=.ref tt 0 0) rfl;have ck:=yw H2 p;have ho:=Em H2.guard c hc p.line;have ez:bd 70 []=some (.agg zP9):=by simp -implicitDefEqProofs only [xq_,wF,gV,bZ]
 -- the zero packet is laid anew
 have zst:∀{K:aj} {gk:Store},Good b K gk->K.base<=b->gk (H.next+1)=some (zP9.map Cell.av)->∀{y:List AV},y.length=9->y.all AV.aH=true->∃K',st 9 (.ref (H.next+1) 0 0) (.agg y) K=some (aO,K')/\lda 9 (.ref (H.next+1) 0 0) K'=some (.agg y,K')/\Good b K' (upd gk (H.next+1) (y.map Cell.av))/\Step b K K':=by
  intro K gk Gk hk hz y hy ha;obtain⟨K',t1,t2,t3,t4⟩:=Gk.stores hk hz (i:=0) (n:=9) (vs:=y) (by simp) hy ha;have e:mX (zP9.map Cell.av) 0 y=y.map Cell.av:=by
   unfold mX;rw [zaU (by simp [hy])];simp
  rw [e] at t2;exact⟨K',t1,t2.loads upd_same (i:=0) (n:=9) (xs:=y) (by rw [zaP,zas (by simp [hy])]) hy (by decide),t2,t3⟩
 obtain⟨Hz,z1,z2,z3,z4⟩:=zst G2' (by simp only [H2,H1,bNew];exact hb) hp2 (y:=zP9) rfl rfl;have Sz:∀{gk:Store} {y:List Cell},pO gk (upd gk (H.next+1) y)->True:=λ_=> trivial;have zg:Good b Hz g:=z3.sub λq' cs h=> by
  have hne:q'≠H.next+1:=λe=> by
   have:=G.lt h;omega
  rw [upd_ne hne];exact S2 _ _ h
 simp only [H2,H1] at p0 p1 p2 p3 p4 pa l10 l2 l3 la lt ck ho z1 z2;have bad:∀e:Int,h.handle c me p=(h,.zero,false,e)->∀H',H'=Hz->Good b H' (jL g d tt c (h.handle c me p).1)/\Step b H H':=λe he H' hH=> by
  rw [he,Cj N,hH];exact⟨zg,st2.trans z4⟩
 by_cases h1:(!(p.ok && decide (p.dst=me) && decide (p.src < c.nodes)) || (decide (p.kind≠1) && decide (p.kind≠2)))=true
 ·have hp:h.handle c me p=(h,.zero,false,1):=by simp only [Home.handle];rw [if_pos h1]
  refine⟨Hz,?_,bad 1 hp Hz rfl⟩;rw [hp];cases hok:p.ok with
  | false=>
   rw [hok] at ck;simp -implicitDefEqProofs only [Nat.reduceLT,Int.reduceEq,xq_,qw,aB (aJ p),pa,ck,zal,ez,z1,z2,Ti,dN]
  | true=>
   rw [hok] at ck h1;by_cases hds:p.dst=me
   ·by_cases hsr:p.src < c.nodes
    ·simp only [hds,hsr,decide_true,zb8,zae,zbH,zaj,decide_eq_true_eq] at h1;have k1:=h1.1;have k2:=h1.2;simp only [ne_eq] at k1 k2;simp -implicitDefEqProofs only [Nat.reduceLT,xq_,qw,aB (aJ p),pa,ck,p2,l10,hds,p1,l2,hsr,zae,zal,p0,k1,k2,ez,z1,z2,Ti,dN]
    ·simp -implicitDefEqProofs only [Nat.reduceLT,xq_,qw,aB (aJ p),pa,ck,p2,l10,hds,p1,l2,hsr,zal,ez,z1,z2,Ti,dN]
   ·simp -implicitDefEqProofs only [Nat.reduceLT,xq_,qw,aB (aJ p),pa,ck,p2,l10,hds,zal,ez,z1,z2,Ti,dN]
 ·have hcond:p.ok=true/\p.dst=me/\p.src < c.nodes/\(p.kind=1∨p.kind=2):=by
   simp only [zbl,zbi,Bool.and_eq_false_iff,decide_eq_false_iff_not,zaj,decide_eq_true_eq,not_or,not_and,Classical.not_not] at h1;obtain⟨⟨⟨a1,a2⟩,a3⟩,a4⟩:=h1;refine⟨by simpa using a1,a2,a3,?_⟩;by_cases hk:p.kind=1
   ·exact .inl hk
   ·exact .inr (a4 hk)
  obtain⟨hok,hds,hsr,hkind⟩:=hcond;rw [hok] at ck;have hk12:(p.kind=1/\True)∨(¬p.kind=1/\p.kind=2):=by
   rcases hkind with hk | hk
   ·exact .inl ⟨hk,trivial⟩
   ·exact .inr ⟨by omega,hk⟩
  by_cases h2:c.ig p.line≠me∨c.lines<=p.line
  ·have hp:h.handle c me p=(h,.zero,false,3):=by simp only [Home.handle];rw [if_neg h1,if_pos h2]
   refine⟨Hz,?_,bad 3 hp Hz rfl⟩;rw [hp];rcases hk12 with⟨hk,_⟩ | ⟨hk0,hk⟩
   ·by_cases hh:c.ig p.line=me
    ·have hl2:c.lines<=p.line:=h2.resolve_left (λh=> h hh);simp -implicitDefEqProofs only [Nat.reduceLT,Nat.reduceAdd,xq_,qw,aB (aJ p),pa,ck,p2,l10,hds,p1,l2,hsr,zae,p0,hk,la,p4,ho,hh,l3,hl2,ez,z1,z2,Ti,dN]
    ·simp -implicitDefEqProofs only [Nat.reduceLT,xq_,qw,aB (aJ p),pa,ck,p2,l10,hds,p1,l2,hsr,zae,zal,p0,hk,la,p4,ho,hh,ez,z1,z2,Ti,dN]
   ·by_cases hh:c.ig p.line=me
    ·have hl2:c.lines<=p.line:=h2.resolve_left (λh=> h hh);simp -implicitDefEqProofs only [Nat.reduceLT,Int.reduceEq,Nat.reduceAdd,xq_,qw,aB (aJ p),pa,ck,p2,l10,hds,p1,l2,hsr,zae,zal,p0,hk,la,p4,ho,hh,l3,hl2,ez,z1,z2,Ti,dN]
    ·simp -implicitDefEqProofs only [Nat.reduceLT,Int.reduceEq,xq_,qw,aB (aJ p),pa,ck,p2,l10,hds,p1,l2,hsr,zae,zal,p0,hk,la,p4,ho,hh,ez,z1,z2,Ti,dN]
  ·have hh:c.ig p.line=me:=Classical.byContradiction λh=> h2 (.inl h);have hl2:¬c.lines<=p.line:=λh=> h2 (.inr h);rcases hk12 with⟨hk,_⟩ | ⟨hk0,hk⟩
   ·obtain⟨K1,a1,a2,a3⟩:=abB G2' (by simp only [H2,H1,bNew];exact hb) N2.2.2 hw p.line p.src p.id (hwl p.line);have NK:=N2.agJ { h with turns:=(h.turns.ask p.line p.src p.id).1 };rw [wM N2] at NK;have hqt:tt≠H.next:=G.ne N.2.2
    have amc:tt≠H.next+1:=by have:=G.lt N.2.2;omega
    have k1:upd g2 tt (fZ (h.turns.ask p.line p.src p.id).1) H.next=some (p.av.map Cell.av):=by rw [upd_ne hqt.symm];exact hp1
    have k2:upd g2 tt (fZ (h.turns.ask p.line p.src p.id).1) (H.next+1)=some (zP9.map Cell.av):=by rw [upd_ne amc.symm];exact hp2
    have hbK:K1.base<=b:=by rw [a3.base];simp only [H2,H1,bNew];exact hb
    have fin:∀{K2:aj} {y:List Cell},Good b K2 (upd (upd g2 tt (fZ (h.turns.ask p.line p.src p.id).1)) (H.next+1) y)->Good b K2 (jL g d tt c { h with turns:=(h.turns.ask p.line p.src p.id).1 }):=λGk=> Gk.sub (by
     rw [wM N];refine((S2.both tt _).more (xF (G.isNone (za9 _)) amc.symm) _))
    have kk:¬((1:Int)=2):=by decide
    simp only [H2,H1] at a1;cases ha:(h.turns.ask p.line p.src p.id).2 with
    | false=>
     have hp:h.handle c me p=({ h with turns:=(h.turns.ask p.line p.src p.id).1 },.zero,false,0):=by
      simp only [Home.handle];rw [if_neg h1,if_neg h2,if_pos hk];rw [if_neg (by rw [ha];decide)]
     rw [hp];rw [ha] at a1;obtain⟨K2,y1,y2,y3,y4⟩:=zst a2 hbK k2 (y:=zP9) rfl rfl;refine⟨K2,?_,fin y3,(st2.trans a3).trans y4⟩;simp -implicitDefEqProofs only [Nat.reduceLT,Nat.reduceAdd,xq_,qw,aB (aJ p),pa,ck,p2,l10,hds,p1,l2,hsr,zae,zal,p0,hk,la,p4,ho,hh,l3,hl2,lt,p3,a1,ez,y1,y2,Ti,dN]
    | true=>
     have hp:h.handle c me p=({ h with turns:=(h.turns.ask p.line p.src p.id).1 },granted h.rows me p.line p.src p.id,true,0):=by
      simp only [Home.handle];rw [if_neg h1,if_neg h2,if_pos hk];rw [if_pos ha]
     rw [hp];rw [ha] at a1;have q1:=a2.load k1 (i:=1) (x:=I p.src) rfl;have q3:=a2.load k1 (i:=3) (x:=I p.id) rfl;have q4:=a2.load k1 (i:=4) (x:=I p.line) rfl;have gr:=GN a2 NK hr p.line p.src p.id;obtain⟨K2,y1,y2,y3,y4⟩:=zst a2 hbK k2 (y:=(granted h.rows me p.line p.src p.id).av) (aY _) (aJ _);refine⟨K2,?_,fin y3,(st2.trans a3).trans y4⟩;simp -implicitDefEqProofs only [Nat.reduceLT,Nat.reduceAdd,xq_,qw,aB (aJ p),pa,ck,p2,l10,hds,p1,l2,hsr,zae,p0,hk,la,p4,ho,hh,l3,hl2,lt,p3,a1,q1,q3,q4,gr,y1,y2,Ti]
   ·obtain⟨K1,a1,a2,a3⟩:=Y0 G2' (by simp only [H2,H1,bNew];exact hb) N2 p hl;have hqt:tt≠H.next:=G.ne N.2.2
    have amc:tt≠H.next+1:=by have:=G.lt N.2.2;omega
    have hqd:d≠H.next:=G.ne N.2.1
    have apF:d≠H.next+1:=by have:=G.lt N.2.1;omega
    have k1:jL g2 d tt c (h.unlock c p).1 H.next=some (p.av.map Cell.av):=by unfold jL;rw [upd_ne hqt.symm,upd_ne hqd.symm];exact hp1
    have k2:jL g2 d tt c (h.unlock c p).1 (H.next+1)=some (zP9.map Cell.av):=by unfold jL;rw [upd_ne amc.symm,upd_ne apF.symm];exact hp2
    have NK:=N2.agJ (h.unlock c p).1;have hbK:K1.base<=b:=by rw [a3.base];simp only [H2,H1,bNew];exact hb
    have fin:∀{K2:aj} {y:List Cell},Good b K2 (upd (jL g2 d tt c (h.unlock c p).1) (H.next+1) y)->Good b K2 (jL g d tt c (h.unlock c p).1):=λGk=> Gk.sub (by
     refine((NH S2 _).more ?_ _);unfold jL;rw [upd_ne amc.symm,upd_ne apF.symm];exact G.isNone (za9 _))
    have kk:¬((2:Int)=1):=by decide
    simp only [H2,H1] at a1;by_cases hz:(h.unlock c p).2=0
    ·have hp:h.handle c me p=((h.unlock c p).1,⟨8,me,p.src,p.id,p.line,0,0,false,[]⟩,true,0):=by
      simp only [Home.handle];rw [if_neg h1,if_neg h2,if_neg hk0,if_pos hz]
     rw [hp];rw [hz] at a1;have q1:=a2.load k1 (i:=1) (x:=I p.src) rfl;have q3:=a2.load k1 (i:=3) (x:=I p.id) rfl;have q4:=a2.load k1 (i:=4) (x:=I p.line) rfl;have q10:=a2.load NK.1 (i:=10) (x:=I me) rfl;have hd0:dat ([]:List Int)=zN:=by simp [dat,dQ]
     obtain⟨K2,y1,y2,y3,y4⟩:=zst a2 hbK k2 (y:=(Pkt.mk 8 me p.src p.id p.line 0 0 false []).av) (aY _) (aJ _);refine⟨K2,?_,fin y3,(st2.trans a3).trans y4⟩;have eb:bd 70 [(0,I 8),(1,I me),(2,I p.src),(3,I p.id),(4,I p.line)]=some (.agg (Pkt.mk 8 me p.src p.id p.line 0 0 false []).av):=by
      simp -implicitDefEqProofs only [xq_,wF,gV,dM,O4,Pkt.av,hd0];rfl
     simp -implicitDefEqProofs only [Nat.reduceLT,Nat.reduceAdd,xq_,qw,aB (aJ p),pa,ck,p2,l10,hds,p1,l2,hsr,zae,zal,p0,hk,kk,la,p4,ho,hh,l3,hl2,a1,q10,q1,q3,q4,eb,y1,y2,Ti]
    ·have hp:h.handle c me p=((h.unlock c p).1,.zero,false,(h.unlock c p).2):=by
      simp only [Home.handle];rw [if_neg h1,if_neg h2,if_neg hk0,if_neg hz]
     rw [hp];obtain⟨K2,y1,y2,y3,y4⟩:=zst a2 hbK k2 (y:=zP9) rfl rfl;refine⟨K2,?_,fin y3,(st2.trans a3).trans y4⟩;simp -implicitDefEqProofs only [Nat.reduceLT,Nat.reduceAdd,xq_,qw,aB (aJ p),pa,ck,p2,l10,hds,p1,l2,hsr,zae,zal,p0,hk,kk,la,p4,ho,hh,l3,hl2,a1,hz,ez,y1,y2,Ti,dN]
end
theorem Y2(l:List Int):(l.mergeSort λx y=> decide (x<=y))=srt [] l:=by
 have tr:∀a b c:Int,decide (a<=b)=true->decide (b<=c)=true->decide (a<=c)=true:=λa b c h1 h2=> by simp only [decide_eq_true_eq] at*;omega
 have to:∀a b:Int,(decide (a<=b) || decide (b<=a))=true:=λa b=> by simp only [zbl,decide_eq_true_eq];omega
 exact(aiw (List.mergeSort_perm l _).symm ((List.pairwise_mergeSort tr to l).imp λh=> of_decide_eq_true h)).symm
theorem abK(l:List Int):sortL l=dat (srt [] l):=by
 unfold sortL;split
 ·rename_i h;subst h;simp [dat,dQ,srt,ait]
 ·rename_i h;have hp:=(oO l [] List.Pairwise.nil).1;have hl:(srt [] l).length=l.length:=hp.length_eq;have hne:srt [] l≠[]:=λe=> h (by rw [e] at hl;exact zan hl.symm);rw [uo hne,Y2,hl]
section
variable {b:Nat}{H:aj}{g:Store}{q d tt:Nat}{c:Cfg}{me:Int}{h:Home}
structure TOk(t:Turns):Prop where
 nd:(t.wait.map (·.1)).Nodup
 key:∀e∈t.wait,0<=e.1/\e.1 < 1000
 len:t.wait.length < 1000
 ws:∀line,(t.ws line).length < 1000000
theorem GR(G:Good b H g){t:Turns}(h:g q=some (fZ t))(T:TOk t):cl 159 [.ref q 0 0] H=some (dat (t.ready (srt [] (t.wait.map (·.1)))),H):=by
 obtain⟨r,aes,f1,f2,f3,f4⟩:=G.guard.agz h (i:=1) rfl;have f4:aes.map (·.1)=t.wait.map (·.1):=by rw [f4];simp
 let H1:=H.guard.new (.blk 0 207 [.mp r]);have k1:cl 192 [.mp r] H.guard=some (.fn (.func 208) [] [.ref H.next 0 0],H1):=by
  refine aN rfl rfl (alg _ _ _ ?_);have eb:fA 207 (.mp r) H.guard=some (.ref H.next 0 0,H1):=rfl;simp -implicitDefEqProofs only [xq_,aen,eb]
 have k2:cl 191 [.fn (.func 208) [] [.ref H.next 0 0]] H1=some (dat (srt [] (t.wait.map (·.1))),H1):=by
  refine Dn (p:=yV Aj Gm) rfl ?_;have g1:H1.get H.next=.blk 0 207 [.mp r]:=aK rfl
  have g2:H1.get r=.map .i64 aes:=by rw [<-f3];exact aQ f2
  have hc:(True/\207 < eH/\208≠0/\208∈Aj/\(aes.map (·.1)).Nodup/\(aes.all λe=> (Lit.int .i64 e.1).wf)=true/\aes.length<=1000000):=by
   refine⟨trivial,by unfold eH;decide,by decide,by simp [Aj],by rw [f4];exact T.nd,?_,?_⟩
   ·rw [zaZ];intro e he;have:e.1∈t.wait.map (·.1):=by rw [<-f4];exact zaN.2 ⟨e,he,rfl⟩
    obtain⟨x,hx,hxe⟩:=zaN.1 this;have:=T.key x hx;have m1:IntKind.min .i64=-9223372036854775808:=rfl;have m2:IntKind.max .i64=9223372036854775807:=rfl;simp only [Lit.wf,m1,m2,zaj,decide_eq_true_eq];rw [<-hxe];omega
   ·have:=congrArg List.length f4;simp only [zaE] at this;have:=T.len;omega
  simp only [yV,g1,g2];rw [if_pos hc,f4,abK]
 have hsp:=oO (t.wait.map (·.1)) [] List.Pairwise.nil;obtain⟨K,hK0⟩:∃K,K=srt [] (t.wait.map (·.1)):=⟨_,rfl⟩
 rw [<-hK0] at k2 hsp ⊢;have hK:K.length < 1000:=by have:=hsp.1.length_eq;simp only [zaX,zaE] at this;have:=T.len;omega
 have hs:∀H',aG H' (dat K) 1 K.length (K.map I):=λH'=> jr H' K;let p:Int->Bool:=λline=> !t.owned line && !(t.ws line).isEmpty
 let F:Nat->List Int:=λj=> (K.take j).filter p
 have key:∀k j,j+k=K.length->∀(Hi:aj) (o:AV),Own H.next Hi o 1 ((F j).map I)->(F j=[]->o=zN)->Step H.next H.guard Hi->
   ∃y Hz,BK cl [.ref q 0 0,o,dat K,I K.length,I j] Hi=some (y,Hz)/\Own H.next Hz y 1 ((t.ready K).map I)/\(t.ready K=[]->y=zN):=by
  intro k
  induction k with
  | zero=>
   intro j hj Hi o O z s;have h1:¬(j:Int) < K.length:=by omega
   have:F j=t.ready K:=by
    simp only [F,Turns.ready,p];rw [zas (by omega)]
   rw [this] at O z;refine⟨o,Hi,?_,O,z⟩;rw [RP];simp -implicitDefEqProofs only [xq_,h1]
  | succ k ih=>
   intro j hj Hi o O z s;have h1:(j:Int) < K.length:=by omega
   have h6:(j:Int)+1=((j+1:Nat):Int):=by omega
   have h7:=wrap_i64 (a:=((j+1:Nat):Int)) (by omega) (by omega);have sb:Hi.base=H.next:=s.base
   have sn:H.next<=Hi.next:=s.next
   obtain⟨e,he⟩:∃e,K[j]?=some e:=⟨_,zab (by omega)⟩
   have s1:=(hs Hi).ix (k:=.i64) (i:=(j:Int)) (by omega) h1;rw [zar] at s1;have s2:=(hs Hi).ld (i:=j) (by omega);rw [zaB,he] at s2;simp only [zah] at s2;have Gi:Good b Hi g:=G.guard.ext s.next s.low
   have o1:=vg Gi h e;have w1:=uF Gi h e;have hFs:F (j+1)=F j++if p e=true then [e] else []:=by
    simp only [F,zb6,he,Option.toList_some,zcg]
    congr 1
    cases hp:p e <;> simp [hp]
   have hm:(F j).length<=j:=zaz (List.length_filter_le _ _) (by rw [zao];omega);rw [RP];cases hp:p e with
   | true=>
    rw [hp,if_pos rfl] at hFs;have ho:t.owned e=false:=by simp only [p,zaj,zbi] at hp;exact hp.1
    have hw:(0:Int) < (t.ws e).length:=by
     simp only [p,zaj,zbi] at hp;cases hz:t.ws e with
     | nil=> rw [hz] at hp;simp at hp
     | cons a l=> simp only [zak];omega
    obtain⟨o',H2,t1,t2,t3⟩:=(O.new (.blk 0 3 [I e])).step (n:=(F j).length) (k:=1) (e:=3) (by_:=8) (y:=.sl Hi.next 0 0 1 1 1 true) (new:=[I e]) (by simp only [nNew];omega) (by simp only [bNew];omega) (by decide) (by simp) (jv rfl) rfl (by unfold most;omega) (by unfold most;omega);obtain⟨y,Hz,r1,r2⟩:=ih (j+1) (by omega) H2 o' (by rw [hFs,zbk];exact t2) (λhz=> by rw [hFs] at hz;simp at hz) ((s.trans (Step.new _ sn)).trans t3);refine⟨y,Hz,?_,r2⟩;rw [ho] at o1;have eb:∀H,bs 22 1 [(0,I e)] H=some (.sl H.next 0 0 1 1 1 true,H.new (.blk 0 3 [I e])):=λH=> (Dx (by decide)).trans (jm rfl rfl rfl);simp -implicitDefEqProofs only [xq_,h1,s1,s2,o1,w1,hw,zal,eb,t1,x8,aZ,h6,h7];exact r1
   | false=>
    rw [hp,if_neg (by simp),zbh] at hFs;obtain⟨y,Hz,r1,r2⟩:=ih (j+1) (by omega) Hi o (by rw [hFs];exact O) (by rw [hFs];exact z) s;refine⟨y,Hz,?_,r2⟩;cases ho:t.owned e with
    | true=>
     rw [ho] at o1;simp -implicitDefEqProofs only [xq_,h1,s1,s2,o1,zae,x8,aZ,h6,h7];exact r1
    | false=>
     rw [ho] at o1;have hw:¬(0:Int) < (t.ws e).length:=by
      simp only [p,ho,zal,zaO,Bool.not_eq_false'] at hp;rw [List.isEmpty_iff] at hp;rw [hp];decide
     simp -implicitDefEqProofs only [xq_,h1,s1,s2,o1,w1,hw,zal,x8,aZ,h6,h7];exact r1
 obtain⟨y,Hz,r1,r2,r3⟩:=key K.length 0 (by omega) H1 zN (.inl ⟨rfl,rfl⟩) (λ_=> rfl) (Step.new _ (zac _));refine eu rfl rfl (akJ _ _ _ (r:=(y,Hz)) ?_) ?_
 ·have e2:=(hs H1).lnS;simp only [H1] at k1 k2 e2 r1;simp -implicitDefEqProofs only [xq_,ad4,f1,k1,k2,e2];exact r1
 ·by_cases hz:t.ready K=[]
  ·rw [r3 hz,hz];simp only [dat,dQ];exact fJ
  ·rw [uo hz];exact zG r2 (by decide) (by simp) (λy hy=> oZ (d:=7) _ y hy _ _) (λe=> hz (zan e))
end
def Off(S:Nat->Prop)(g g':Store):Prop:=∀q,¬S q->g' q=g q
theorem Off.refl(S:Nat->Prop)(g:Store):Off S g g:=λ_ _=> rfl
theorem Off.trans {S:Nat->Prop}{g g' g'':Store}(h:Off S g g')(h':Off S g' g''):Off S g g'':=λq hq=> (h' q hq).trans (h q hq)
theorem Off.upd {S:Nat->Prop}{g:Store}{q:Nat}{cs:List Cell}(h:S q):Off S g (upd g q cs):=λx hx=> by
 rw [upd_ne];intro e;subst e;exact hx h
theorem Off.mono {S T:Nat->Prop}{g g':Store}(h:Off S g g')(hs:∀q,S q->T q):Off T g g':=λq hq=> h q λh'=> hq (hs q h')
def JY(P:Nat->Nat->Nat)(n:Nat)(q:Nat):Prop:=∃i s,i < n/\s < 4/\q=P i s
def Oi(p:Port):Nat->List Pkt
 | 0=> p.rq
 | 1=> p.rin
 | 2=> p.an
 | _=> p.ain
def JZ(c:Cfg):Nat->Int
 | 0=> c.out
 | 1=> c.inn
 | 2=> c.out
 | _=> 1
def oIx(req:Bool):Nat:=if req then 0 else 2
def iIx(req:Bool):Nat:=if req then 1 else 3
theorem eU {g:Store}{a:Nat->Nat}{c:Cfg}{p:Port}(h:sO g a c p):∀{s:Nat},s < 4->g (a s)=some (kU (Oi p s) (JZ c s)):=λ{s} hs=> by
 obtain⟨h0,h1,h2,h3⟩:=h
 match s,hs with
 | 0,_=> exact h0
 | 1,_=> exact h1
 | 2,_=> exact h2
 | 3,_=> exact h3
theorem yx {g:Store}{a:Nat->Nat}{c:Cfg}{p:Port}(h:∀s,s < 4->g (a s)=some (kU (Oi p s) (JZ c s))):sO g a c p:=
 ⟨h 0 (by decide),h 1 (by decide),h 2 (by decide),h 3 (by decide)⟩
theorem yA(p:Port)(req:Bool):Oi p (oIx req)=p.sort req:=by cases req <;> rfl
theorem EJ(p:Port)(req:Bool):Oi p (iIx req)=p.rH req:=by cases req <;> rfl
theorem pF(c:Cfg)(req:Bool):JZ c (oIx req)=c.out:=by cases req <;> rfl
theorem qG(req:Bool):oIx req < 4:=by cases req <;> decide
theorem pG(req:Bool):iIx req < 4:=by cases req <;> decide
theorem wO(p:Port)(req:Bool)(l:List Pkt)(s:Nat)(hs:s < 4):Oi (p.lX req l) s=if s=oIx req then l else Oi p s:=by
 match s,hs with
 | 0,_=> cases req <;> rfl
 | 1,_=> cases req <;> rfl
 | 2,_=> cases req <;> rfl
 | 3,_=> cases req <;> rfl
theorem zO(p:Port)(req:Bool)(l:List Pkt)(s:Nat)(hs:s < 4):Oi (p.mO req l) s=if s=iIx req then l else Oi p s:=by
 match s,hs with
 | 0,_=> cases req <;> rfl
 | 1,_=> cases req <;> rfl
 | 2,_=> cases req <;> rfl
 | 3,_=> cases req <;> rfl
section
variable {b:Nat}{H:aj}{g:Store}{f:Nat}{P:Nat->Nat->Nat}{c:Cfg}{fab:Fab}
theorem fH.sub {g':Store}(F:fH g f P c fab)(hs:pO g g'):fH g' f P c fab:=
 ⟨hs _ _ F.1,λi p hp=> by obtain⟨a,b,c,d⟩:=F.2.1 i p hp;exact⟨hs _ _ a,hs _ _ b,hs _ _ c,hs _ _ d⟩,F.2.2⟩
theorem fH.fne(F:fH g f P c fab){i s:Nat}(hi:i < fab.l.length)(hs:s < 4):f≠P i s:=λe=> by
 have h1:=F.1;have h2:=eU (F.port hi) hs;rw [<-e,h1] at h2;have:=congrArg List.length (za3 h2);simp [abl,kU] at this
theorem fH.fill(F:fH g f P c fab)(J:PW P fab.l.length){i s:Nat}(hi:i < fab.l.length)(hs:s < 4){p':Port}{l:List Pkt}(hp:∀t,t < 4->Oi p' t=if t=s then l else Oi (fab.port i) t):
  fH (upd g (P i s) (kU l (JZ c s))) f P c (fab.put i p'):=by
 have hlen:(fab.put i p').l.length=fab.l.length:=by simp [Fab.put]
 refine⟨by rw [hlen,upd_ne (F.fne hi hs)];exact F.1,λj p hj=> ?_,F.2.2⟩;simp only [Fab.put,zar] at hj;have hjl:j < fab.l.length:=by have:=(zaf.1 hj).1;simpa using this
 by_cases hij:i=j
 ·subst hij;rw [zbj hi] at hj;cases hj;refine yx λt ht=> ?_;rw [hp t ht];by_cases hts:t=s
  ·subst hts;rw [if_pos rfl,upd_same]
  ·rw [if_neg hts,upd_ne (λe=> hts (J _ _ _ _ hi hi ht hs e).2)];exact eU (F.port hi) ht
 ·rw [zbx hij] at hj;refine yx λt ht=> ?_;rw [upd_ne (λe=> hij (J _ _ _ _ hjl hi ht hs e).1.symm)];have:=eU (F.2.1 j p hj) ht;exact this
theorem yB {i:Int}(hi:fab.is i=true):∃n:Nat,i=n/\n < fab.l.length:=by
 simp only [Fab.is,zaj,decide_eq_true_eq] at hi;exact⟨i.toNat,by omega,by omega⟩
def abL(a:Nat->Nat)(req:Bool):List AV:=[.ref (a (oIx req)) 0 0,.ref (a (iIx req)) 0 0]
theorem Cm(H:aj)(hb:H.base<=H.next)(a:Nat->Nat)(req:Bool):∃H',cl 63 [.agg (lH a),B req] H=some (.agg (abL a req),H')/\Made H H' nil0:=by
 refine jw rfl rfl (aod _ _ _ _) ?_;have ap:(lH a).all AV.aH=true:=rfl;cases req with
 | true=>
  refine⟨(H.new (.blk 0 121 (lH a))).new (.blk 0 115 (abL a true)),?_,((Made.refl hb).new _).new _⟩;simp -implicitDefEqProofs only [Nat.reduceLT,Nat.reduceAdd,setAt,xq_,hq_,afL,lH,abL,oIx,iIx,aB,hb]
 | false=>
  refine⟨(H.new (.blk 0 121 (lH a))).new (.blk 0 115 (abL a false)),?_,((Made.refl hb).new _).new _⟩;simp -implicitDefEqProofs only [Nat.reduceLT,Nat.reduceAdd,setAt,xq_,hq_,afL,lH,abL,oIx,iIx,aB,hb]
theorem yC(G:Good b H g)(F:fH g f P c fab){i:Nat}(hi:i < fab.l.length):∃x r gg o,ld (.ref f 0 0) H=some (x,H)/\ix 4 x (I i) H=some (.ref r gg o,H)/\lda 4 (.ref r gg o) H=some (.agg (lH (P i)),H):=by
 obtain⟨x,hx,cu⟩:=G.seq F.1 (i:=0) rfl;obtain⟨r,gg,o,a1,_,a3⟩:=cu.elemAt (by decide) (lT P _) hi;have hr:(List.range fab.l.length)[i]?=some i:=zbm hi;have:=flat_get (enc:=λi=> lH (P i)) (m:=4) (λ_=> rfl) (List.range fab.l.length) i i hr;rw [this] at a3;exact⟨x,r,gg,o,hx,a1 .i64,a3⟩
structure FOk(c:Cfg)(fab:Fab):Prop where
 ok:c.ok=true
 len:fab.l.length < 1000
 box:∀p∈fab.l,∀s,s < 4->((Oi p s).length:Int)<=JZ c s
 dat:∀p∈fab.l,∀s,s < 4->∀q∈Oi p s,q.data.length < 1000000000
theorem GU {c:Cfg}(h:c.ok=true)(s:Nat):0<=JZ c s/\JZ c s < 1000:=by
 have B:=qx h;have:=B.out;have:=B.inn;unfold JZ;split <;> omega
theorem FOk.small {c:Cfg}{fab:Fab}(K:FOk c fab){p:Port}(hp:p∈fab.l){s:Nat}(hs:s < 4):(Oi p s).length < 1000:=by
 have:=K.box p hp s hs;have:=(GU K.ok s).2;omega
theorem Fab.rW {fab:Fab}{i:Nat}(hi:i < fab.l.length):fab.port i∈fab.l:=by
 unfold Fab.port;rw [zar,zax,zab hi];exact List.getElem_mem hi
theorem agK(G:Good b H g)(hb:H.base<=b)(F:fH g f P c fab)(K:FOk c fab)(i:Int)(req:Bool):∃H',cl 107 [.ref f 0 0,I i,B req] H=some (I (fab.roomOf i req),H')/\Good b H' g/\Step b H H':=by
 refine jw rfl rfl (ajY _ _ _ _ _) ?_;have e1:=yu G F K.len i;cases hi:fab.is i with
 | false=>
  rw [hi] at e1;refine⟨H,?_,G,Step.refl _ _⟩;have:fab.roomOf i req=0:=by simp [Fab.roomOf,hi]
  simp -implicitDefEqProofs only [xq_,XE,e1,zal,this]
 | true=>
  rw [hi] at e1;obtain⟨n,rfl,hn⟩:=yB hi;obtain⟨x,r,gg,o,h1,h2,h3⟩:=yC G F hn;obtain⟨H1,s1,s2⟩:=Cm H (zaz hb G.1) (P n) req;have G1:Good b H1 g:=G.ext s2.next s2.same
  have hbx:=eU (F.port hn) (qG req);have e2:=Sl G1 hbx (GU K.ok _).1 (GU K.ok _).2 (K.small (Fab.rW hn) (qG req));rw [yA,pF,<-F.2.2.1] at e2;refine⟨H1,?_,G1,⟨s2.base,s2.next,λr hr=> s2.same r (zaw hr G.1)⟩⟩;have hro:fab.roomOf n req=fab.out - ((fab.port n).sort req).length:=by unfold Fab.roomOf;rw [if_pos hi]
  have l0:(abL (P n) req)[0]?=some (.ref (P n (oIx req)) 0 0):=rfl;simp -implicitDefEqProofs only [xq_,XE,e1,zae,h1,h2,h3,s1,l0,e2,hro]
theorem agL(G:Good b H g)(hb:H.base<=b)(F:fH g f P c fab)(J:PW P fab.l.length)(K:FOk c fab)(p:Pkt)(hl:p.data.length < 1000000000):
  ∃H' g',cl 109 [.ref f 0 0,.agg p.av] H=some (I (fab.send p).2,H')/\Good b H' g'/\fH g' f P c (fab.send p).1/\Off (JY P fab.l.length) g g'/\Step b H H':=by
 have hb0:H.base<=H.next:=zaz hb G.1
 let H1:=H.new (.blk 0 70 p.av);have G1:Good b H1 g:=G.new _;have ck:=yw H1 p;have e1:=yu G1 F K.len p.src;have e2:=yu G1 F K.len p.dst;by_cases hbad:(!p.ok || !fab.is p.src || !fab.is p.dst)=true
 ·have hp:fab.send p=(fab,1):=by simp only [Fab.send];rw [if_pos hbad]
  rw [hp];refine⟨H1,g,aN rfl rfl (adw _ _ _ _ ?_),G1,F,Off.refl _ _,Step.new _ G.1⟩;simp only [H1] at ck e1 e2 ⊢;have f1:p.av[1]?=some (I p.src):=rfl;have f2:p.av[2]?=some (I p.dst):=rfl;cases hok:p.ok with
  | false=>
   rw [hok] at ck;simp -implicitDefEqProofs only [Nat.reduceLT,Int.reduceEq,xq_,hq_,L8,aB (aJ p),ck,zal]
  | true=>
   rw [hok] at ck hbad;cases hs:fab.is p.src with
   | false=>
    rw [hs] at e1;simp -implicitDefEqProofs only [Nat.reduceLT,xq_,hq_,L8,aB (aJ p),ck,zae,f1,e1,zal]
   | true=>
    rw [hs] at e1 hbad;have hd:fab.is p.dst=false:=by simpa using hbad
    rw [hd] at e2;simp -implicitDefEqProofs only [Nat.reduceLT,xq_,hq_,L8,aB (aJ p),ck,zae,f1,f2,e1,e2,zal]
 ·have hcond:p.ok=true/\fab.is p.src=true/\fab.is p.dst=true:=by
   cases h1:p.ok <;> cases h2:fab.is p.src <;> cases h3:fab.is p.dst <;> simp_all
  obtain⟨hok,hs,hd⟩:=hcond;rw [hok] at ck;rw [hs] at e1;rw [hd] at e2;obtain⟨n,hsn,hn⟩:=yB hs;obtain⟨x,r,gg,o,h1,h2,h3⟩:=yC G1 F hn;let req:=DR p.kind;have rq:=GI H1.guard p.kind;obtain⟨K1',s1,s2⟩:=Cm H1.guard (zac _) (P n) req;obtain⟨K1,s1,s2⟩:=drawn s1 s2;have G2:Good b K1 g:=G1.ext s2.next s2.same
  have hbx:=eU (F.port hn) (qG req);have hbK:K1.base<=b:=by rw [s2.base];exact hb
  obtain⟨H',q1,q2,q3⟩:=afZ G2 hbK hbx (GU K.ok _).1 (GU K.ok _).2 (K.small (Fab.rW hn) (qG req)) p hl;have g1:K1.get H.next=.blk 0 70 p.av:=by rw [s2.same _ (by simp only [H1,nNew];omega)];exact aK rfl
  have l9:lda 9 (.ref H.next 0 0) K1=some (.agg p.av,K1):=by
   rw [fQ (off:=0) (n:=9) g1 (by rw [aY];exact zac _),zaP,Lm]
  rw [yA,pF] at q1;have hout:fab.out=c.out:=F.2.2.1;have hle:=K.box _ (Fab.rW hn) _ (qG req);rw [yA,pF] at hle;have f0:p.av[0]?=some (I p.kind):=rfl;have f1:p.av[1]?=some (I p.src):=rfl;have f2:p.av[2]?=some (I p.dst):=rfl;have l0:(abL (P n) req)[0]?=some (.ref (P n (oIx req)) 0 0):=rfl;have run:∀v,cl 163 [.ref (P n (oIx req)) 0 0,.agg p.av] K1=some (v,H')->cl 109 [.ref f 0 0,.agg p.av] H=some (v,H'):=λv q1=> by
   refine aN rfl rfl (adw _ _ _ _ ?_);rw [hsn] at f1 e1;simp only [H1,req] at ck e1 e2 rq h1 h2 h3 s1 l0 q1;simp -implicitDefEqProofs only [Nat.reduceLT,xq_,hq_,L8,aB (aJ p),ck,zae,f0,f1,f2,e1,e2,h1,h2,h3,rq,s1,l0,l9,q1]
  have st0:Step b H K1:=(Step.new _ G.1).trans ⟨s2.base,s2.next,λr hr=> s2.same r (zaw hr G1.1)⟩;have hset:Off (JY P fab.l.length) g (upd g (P n (oIx req)) (kU (if JZ c (oIx req)=((Oi (fab.port n) (oIx req)).length:Int) then Oi (fab.port n) (oIx req) else Oi (fab.port n) (oIx req)++[p]) (JZ c (oIx req)))):=Off.upd ⟨n,oIx req,hn,qG req,rfl⟩;rw [yA,pF] at q2 hset;by_cases hfull:c.out=(((fab.port n).sort req).length:Int)
  ·have hp:fab.send p=(fab,5):=by
    simp only [Fab.send];rw [if_neg hbad,hsn,hout,if_pos (Int.le_of_eq hfull)]
   rw [if_pos hfull] at q1 q2 hset;rw [dO (by rw [eU (F.port hn) (qG req),yA,pF])] at q2;rw [hp];exact⟨H',g,run _ q1,q2,F,Off.refl _ _,st0.trans q3⟩
  ·have hp:fab.send p=(fab.put n ((fab.port n).lX req ((fab.port n).sort req++[p])),0):=by
    simp only [Fab.send];rw [if_neg hbad,hsn,hout,if_neg (λh=> hfull (Int.le_antisymm h hle))]
   rw [if_neg hfull] at q1 q2 hset;rw [hp];refine⟨H',_,run _ q1,q2,?_,hset,st0.trans q3⟩;have:=F.fill J hn (qG req) (p':=(fab.port n).lX req ((fab.port n).sort req++[p])) (l:=(fab.port n).sort req++[p]) (wO _ _ _);rw [pF] at this;exact this
end
section
variable {b:Nat}{H:aj}{g:Store}{f:Nat}{P:Nat->Nat->Nat}{c:Cfg}{fab:Fab}
theorem fH.aqp(G:Good b H g)(F:fH g f P c fab){q:Nat}(h:JY P fab.l.length q):q < H.next:=by
 obtain⟨i,s,hi,hs,rfl⟩:=h;exact G.lt (eU (F.port hi) hs)
theorem fH.Qi(G:Good b H g)(F:fH g f P c fab):¬JY P fab.l.length H.next:=λh=> Nat.lt_irrefl _ (F.aqp G h)
theorem agM {K:aj}{gk:Store}{r:Nat}{ys:List AV}(Gk:Good b K gk)(hk:K.base<=b)(hz:gk r=some (ys.map Cell.av))(hy:ys.length=9){y:List AV}(h9:y.length=9)(ha:y.all AV.aH=true):
  ∃K',st 9 (.ref r 0 0) (.agg y) K=some (aO,K')/\lda 9 (.ref r 0 0) K'=some (.agg y,K')/\Good b K' (upd gk r (y.map Cell.av))/\Step b K K':=by
 obtain⟨K',t1,t2,t3,t4⟩:=Gk.stores hk hz (i:=0) (n:=9) (vs:=y) (by simp [hy]) h9 ha;have e:mX (ys.map Cell.av) 0 y=y.map Cell.av:=by
  unfold mX;rw [zaU (by simp [h9,hy])];simp
 rw [e] at t2;exact⟨K',t1,t2.loads upd_same (i:=0) (n:=9) (xs:=y) (by rw [zaP,zas (by simp [h9])]) h9 (by decide),t2,t3⟩
theorem Y3(G:Good b H g)(hb:H.base<=b)(F:fH g f P c fab)(J:PW P fab.l.length)(K:FOk c fab)(i:Int)(req:Bool):
  ∃H' g',cl 150 [.ref f 0 0,I i,B req] H=some (fM (fab.take i req).2,H')/\Good b H' g'/\fH g' f P c (fab.take i req).1/\Off (JY P fab.l.length) g g'/\Step b H H':=by
 have hb0:H.base<=H.next:=zaz hb G.1
 have G1:=G.newObj (ty:=70) (xs:=zP9) rfl;have S1:pO g (upd g H.next (zP9.map Cell.av)):=(pO.refl g).more (G.isNone (zac _)) _;have F1:=F.sub S1;have e1:=yu G1 F1 K.len i;have ez:bd 70 []=some (.agg zP9):=by simp -implicitDefEqProofs only [xq_,wF,gV,bZ]
 cases hi:fab.is i with
 | false=>
  rw [hi] at e1;have hp:fab.take i req=(fab,none):=by simp [Fab.take,hi]
  rw [hp];obtain⟨K',t1,t2,t3,t4⟩:=agM G1 (by rw [bNew];exact hb) upd_same rfl (y:=zP9) rfl rfl;refine⟨K',g,aN rfl rfl (adZ _ _ _ _ _ ?_),t3.sub (by rw [mG];exact S1),F,Off.refl _ _,(Step.new _ G.1).trans t4⟩;simp -implicitDefEqProofs only [xq_,XT,e1,zal,ez,t1,t2,fM,za0,zaL,dN]
 | true=>
  rw [hi] at e1;obtain⟨n,rfl,hn⟩:=yB hi;obtain⟨x,r,gg,o,h1,h2,h3⟩:=yC G1 F1 hn;obtain⟨K1,s1,s2⟩:=Cm (H.new (.blk 0 70 zP9)) (by rw [bNew,nNew];omega) (P n) req;have G2:Good b K1 _:=G1.ext s2.next s2.same
  have hbx:=eU (F1.port hn) (pG req);have hbK:K1.base<=b:=by rw [s2.base,bNew];exact hb
  have st1:Step b H K1:=(Step.new _ G.1).trans ⟨s2.base,s2.next,λr hr=> s2.same r (zaw hr G1.1)⟩;obtain⟨K2,q1,q2,q3⟩:=Ye G2 hbK hbx (K.small (Fab.rW hn) (pG req)) (K.dat _ (Fab.rW hn) _ (pG req));have hpn:P n (iIx req)≠H.next:=λe=> F.Qi G ⟨n,iIx req,hn,pG req,e.symm⟩
  rw [EJ] at q1 q2;obtain⟨K3,t1,t2,t3,t4⟩:=agM q2 (by rw [q3.base];exact hbK) (r:=H.next) (ys:=zP9) (by rw [upd_ne hpn.symm,upd_same]) rfl (y:=(((fab.port n).rH req).head?.getD .zero).av) (aY _) (aJ _);have l1:(abL (P n) req)[1]?=some (.ref (P n (iIx req)) 0 0):=rfl;have run:cl 150 [.ref f 0 0,I n,B req] H=some (fM ((fab.port n).rH req).head?,K3):=by
   refine aN rfl rfl (adZ _ _ _ _ _ ?_);simp only [fM] at q1;simp -implicitDefEqProofs only [xq_,XT,e1,zae,h1,h2,h3,s1,l1,q1,t1,t2,fM]
  have hsub:pO (upd g (P n (iIx req)) (kU ((fab.port n).rH req).tail (JZ c (iIx req)))) (upd (upd (upd g H.next (zP9.map Cell.av)) (P n (iIx req)) (kU ((fab.port n).rH req).tail (JZ c (iIx req)))) H.next ((((fab.port n).rH req).head?.getD .zero).av.map Cell.av)):=
   (S1.both _ _).more (xF (G.isNone (zac _)) hpn.symm) _
  have G3:=t3.sub hsub;cases hz:(fab.port n).rH req with
  | nil=>
   have hp:fab.take n req=(fab,none):=by simp [Fab.take,hi,hz]
   rw [hz] at run G3;rw [hp];rw [List.tail_nil,dO (by rw [eU (F.port hn) (pG req),EJ,hz])] at G3;exact⟨K3,g,run,G3,F,Off.refl _ _,(st1.trans q3).trans t4⟩
  | cons p l=>
   have hp:fab.take n req=(fab.put n ((fab.port n).mO req l),some p):=by simp [Fab.take,hi,hz]
   rw [hz] at run G3;rw [hp];refine⟨K3,_,run,G3,?_,Off.upd ⟨n,iIx req,hn,pG req,rfl⟩,(st1.trans q3).trans t4⟩;exact F.fill J hn (pG req) (p':=(fab.port n).mO req l) (l:=l) (zO _ _ _)
theorem zQ(G:Good b H g)(hb:H.base<=b)(F:fH g f P c fab)(J:PW P fab.l.length)(K:FOk c fab)(i:Int):
  ∃H' g',cl 110 [.ref f 0 0,I i] H=some (fM (fab.take i true).2,H')/\Good b H' g'/\fH g' f P c (fab.take i true).1/\Off (JY P fab.l.length) g g'/\Step b H H':=by
 have G1:=G.newObj (ty:=70) (xs:=zP9) rfl;have S1:pO g (upd g H.next (zP9.map Cell.av)):=(pO.refl g).more (G.isNone (zac _)) _;have F1:=F.sub S1;obtain⟨K1,g',q1,q2,q3,q4,q5⟩:=Y3 G1 (by rw [bNew];exact hb) F1 J K i true;have hg':g' H.next=some (zP9.map Cell.av):=by rw [q4 _ (F.Qi G),upd_same]
 obtain⟨K2,t1,t2,t3,t4⟩:=agM q2 (by rw [q5.base,bNew];exact hb) hg' rfl (y:=((fab.take i true).2.getD .zero).av) (aY _) (aJ _);let g2:Store:=λq=> if q=H.next then none else g' q
 have hn:g H.next=none:=G.isNone (zac _)
 have F2:fH g2 f P c (fab.take i true).1:=by
  have ne:∀q cs,g' q=some cs->q≠H.next->g2 q=some cs:=λq cs h1 h2=> by simp only [g2];rw [if_neg h2];exact h1
  have hlen:(fab.take i true).1.l.length=fab.l.length:=by
   unfold Fab.take;split
   ·split
    ·rfl
    ·simp [Fab.put]
   ·rfl
  have fn:f≠H.next:=G.ne F.1
  refine⟨ne _ _ q3.1 fn,λj p hj=> yx λs hs=> ne _ _ (eU (q3.2.1 j p hj) hs) λe=> ?_,q3.2.2⟩;have hjl:j < fab.l.length:=by rw [<-hlen];exact(zaf.1 hj).1
  exact F.Qi G ⟨j,s,hjl,hs,e.symm⟩
 refine⟨K2,g2,aN rfl rfl (aj1 _ _ _ _ ?_),t3.sub λq cs h=> ?_,F2,λq hq=> ?_,((Step.new _ G.1).trans q5).trans t4⟩
 ·simp only [fM] at q1;simp -implicitDefEqProofs only [xq_,adx,q1,t1,t2,fM]
 ·simp only [g2] at h;split at h
  ·cases h
  ·rename_i hne;rw [upd_ne hne];exact h
 ·simp only [g2];split
  ·rename_i e;rw [e,hn]
  ·rename_i hne;rw [q4 q hq,upd_ne hne]
theorem JJ(G:Good b H g)(hb:H.base<=b)(F:fH g f P c fab)(J:PW P fab.l.length)(K:FOk c fab)(i:Int):
  ∃H' g',cl 100 [.ref f 0 0,I i] H=some (fM (fab.take i false).2,H')/\Good b H' g'/\fH g' f P c (fab.take i false).1/\Off (JY P fab.l.length) g g'/\Step b H H':=by
 have G1:=G.newObj (ty:=70) (xs:=zP9) rfl;have S1:pO g (upd g H.next (zP9.map Cell.av)):=(pO.refl g).more (G.isNone (zac _)) _;have F1:=F.sub S1;obtain⟨K1,g',q1,q2,q3,q4,q5⟩:=Y3 G1 (by rw [bNew];exact hb) F1 J K i false;have hg':g' H.next=some (zP9.map Cell.av):=by rw [q4 _ (F.Qi G),upd_same]
 obtain⟨K2,t1,t2,t3,t4⟩:=agM q2 (by rw [q5.base,bNew];exact hb) hg' rfl (y:=((fab.take i false).2.getD .zero).av) (aY _) (aJ _);let g2:Store:=λq=> if q=H.next then none else g' q
 have hn:g H.next=none:=G.isNone (zac _)
 have F2:fH g2 f P c (fab.take i false).1:=by
  have ne:∀q cs,g' q=some cs->q≠H.next->g2 q=some cs:=λq cs h1 h2=> by simp only [g2];rw [if_neg h2];exact h1
  have hlen:(fab.take i false).1.l.length=fab.l.length:=by
   unfold Fab.take;split
   ·split
    ·rfl
    ·simp [Fab.put]
   ·rfl
  have fn:f≠H.next:=G.ne F.1
  refine⟨ne _ _ q3.1 fn,λj p hj=> yx λs hs=> ne _ _ (eU (q3.2.1 j p hj) hs) λe=> ?_,q3.2.2⟩;have hjl:j < fab.l.length:=by rw [<-hlen];exact(zaf.1 hj).1
  exact F.Qi G ⟨j,s,hjl,hs,e.symm⟩
 refine⟨K2,g2,aN rfl rfl (ajP _ _ _ _ ?_),t3.sub λq cs h=> ?_,F2,λq hq=> ?_,((Step.new _ G.1).trans q5).trans t4⟩
 ·simp only [fM] at q1;simp -implicitDefEqProofs only [xq_,ads,q1,t1,t2,fM]
 ·simp only [g2] at h;split at h
  ·cases h
  ·rename_i hne;rw [upd_ne hne];exact h
 ·simp only [g2];split
  ·rename_i e;rw [e,hn]
  ·rename_i hne;rw [q4 q hq,upd_ne hne]
end
section
variable {b:Nat}{H:aj}{g:Store}{q:Nat}{l:List Pkt}{room:Int}
theorem UQ(G:Good b H g)(hb:H.base<=b)(h:g q=some (kU l room))(h3:l.length < 1000)(hd:∀p∈l,p.data.length < 1000000000)(k:Nat)(hk:k < l.length):
  ∃v H',cl 66 [.ref q 0 0,I k] H=some (v,H')/\Good b H' (upd g q (kU (l.eraseIdx k) room))/\Step b H H':=by
 obtain⟨p,hp⟩:∃p,l[k]?=some p:=⟨_,zab hk⟩
 have hq:=G.lt h;have G1:=G.newObj (ty:=70) (xs:=zP9) rfl;have h1:upd g H.next (zP9.map Cell.av) q=some (kU l room):=by rw [upd_ne (by omega)];exact h
 have e1:=Yf G1 h1 h3 hd k;rw [if_neg (by omega),zar,hp] at e1;simp only [fM,zay,zaM] at e1;have hb0:H.base<=H.next:=zaz hb G.1
 have G2:=G1.newObj (ty:=70) (xs:=p.av) (aJ _);have h2:upd (upd g H.next (zP9.map Cell.av)) (H.next+1) (p.av.map Cell.av) q=some (kU l room):=by rw [upd_ne (by omega)];exact h1
 obtain⟨x,x',K1,K2,s1,s2,s3,s4,s5⟩:=Sm G2 (by rw [bNew,bNew];omega) h2 h3 hk;have G3:Good b K2 _:=s4;let gz:=upd (upd (upd g H.next (zP9.map Cell.av)) (H.next+1) (p.av.map Cell.av)) q (kU (l.eraseIdx k) room);have q2:gz (H.next+1)=some (p.av.map Cell.av):=by simp only [gz];rw [upd_ne (by omega),upd_same]
 have q1:gz H.next=some (zP9.map Cell.av):=by simp only [gz];rw [upd_ne (by omega),upd_ne (by omega),upd_same]
 have l2:=G3.loads q2 (i:=0) (n:=9) (xs:=p.av) rfl rfl (by decide);obtain⟨K3,t1,t2,t3,t4⟩:=G3.stores (by rw [s5.base,bNew,bNew];exact hb) q1 (i:=0) (n:=9) (vs:=p.av) (by decide) rfl (aJ _);have l3:=t2.loads upd_same (i:=0) (n:=9) (xs:=p.av) rfl rfl (by decide);have w1:=wrap_i64 (a:=(k:Int)+1) (by omega) (by omega);have n1:g H.next=none:=G.isNone (zac _)
 have n2:g (H.next+1)=none:=G.isNone (by omega);refine⟨.tup [.agg p.av,B true],K3,aN rfl rfl (aog _ _ _ _ ?_),t2.sub (((((pO.refl g).more n1 _).more n2 _).both q _).more (xF n1 (by omega)) _),(((Step.new _ G.1).trans (Step.new _ (G.new _).1)).trans s5).trans t3⟩;simp -implicitDefEqProofs only [Nat.reduceAdd,setAt,xq_,hq_,ajp,e1,PG,hb0,aZ,w1,s1,s2,s3,l2,t1,l3]
end
theorem qH {β:Type}{r gg o:Nat}{H H':aj}{k:Option β}(h:H'.get r=H.get r):ck (aT (.ref r gg o)) H H' k=k:=UD λx hx=> by
 simp only [aT,zaa] at hx;subst hx;exact h
section
variable {β:Type}{r gg o:Nat}{X X':aj}{a a' c c':dR}{k:Option β}
theorem ckN(h:r < X.next):ck (aT (.ref r gg o)) (X.new a) (X.new a') k=k:=qH (by rw [aQ h,aQ h])
theorem ckM(h:r=X.next)(h':X'.next=X.next):ck (aT (.ref r gg o)) ((X.new a).new c) ((X'.new a).new c') k=k:=qH (by rw [aQ (H:=X'.new a) (by rw [nNew,h'];omega),aQ (H:=X.new a) (by rw [nNew];omega),aK (h.trans h'.symm),aK h])
end
theorem amd {β:Type}{l:List Int}{H H':aj}{k:Option β}:ck (aT (dat l)) H H' k=k:=UD λx hx=> by
 by_cases h:l=[]
 ·subst h;simp [dat,dQ,aT] at hx
 ·rw [uo h] at hx;simp [aT] at hx
theorem jV:bF.zero.av=[zI,zI,zI,zI,zI,zI,zN,zI,zI]:=by simp [bF.zero,bF.av,dat,dQ]
theorem Y4(p:bF){d:Nat}:∀x∈p.av,Frz (d+2) x:=λx hx=> by
 simp only [bF.av,zam,zaI,or_false] at hx;rcases hx with rfl | rfl | rfl | rfl | rfl | rfl | rfl | rfl | rfl <;> first | exact dW | exact rE
theorem Y5(H:aj)(k:Int):cl 190 [I k] H=some (I (Oh k),H):=by
 refine aN rfl rfl (alf _ _ _ ?_);unfold Oh;by_cases h1:k=1
 ·simp -implicitDefEqProofs only [Int.reduceEq,xq_,Am,h1]
 ·by_cases h2:k=2
  ·simp -implicitDefEqProofs only [Int.reduceEq,xq_,Am,h2]
  ·by_cases h3:k=3
   ·simp -implicitDefEqProofs only [Int.reduceEq,xq_,Am,h3]
   ·by_cases h4:k=4
    ·simp -implicitDefEqProofs only [Int.reduceEq,xq_,Am,h4]
    ·by_cases h5:k=5
     ·simp -implicitDefEqProofs only [Int.reduceEq,xq_,Am,h5]
     ·by_cases h6:k=6
      ·simp -implicitDefEqProofs only [Int.reduceEq,xq_,Am,h6]
      ·simp -implicitDefEqProofs only [xq_,Am,h1,h2,h3,h4,h5,h6]
theorem abM(H:aj)(kind line id:Int):cl 167 [I kind,I line,I id] H=some (.agg (bF.begin kind line id).av,H):=by
 refine aW rfl rfl (akW _ _ _ _ _) ?_ (kD (Y4 _));have hd0:dat ([]:List Int)=zN:=by simp [dat,dQ]
 simp -implicitDefEqProofs only [Int.reduceNeg,Nat.reduceAdd,Nat.reduceLeDiff,setAt,xq_,hq_,aea,Ug,gV,dM,ahL,bF.begin,bF.av,hd0]
theorem Qj(H:aj)(d:bF)(p:Pkt):cl 184 [.agg d.av,.agg p.av] H=some (B (d.fits p),H):=by
 refine aW rfl rfl (ak6 _ _ _ _) ?_ dW;have e1:=λH=> Y5 H d.step;have e2:=λH=> Nz H (Oh d.step);unfold bF.fits;by_cases h1:IE (Oh d.step)=0
 ·simp -implicitDefEqProofs only [Nat.reduceLT,xq_,hq_,Gp,aB,bF.av,Pkt.av,e1,e2,h1,zae,zaQ,not_true_eq_false]
 ·by_cases h2:p.kind=IE (Oh d.step)
  ·by_cases h3:p.id=d.id
   ·by_cases h4:p.line=d.line
    ·simp -implicitDefEqProofs only [Nat.reduceLT,xq_,hq_,Gp,aB,bF.av,Pkt.av,e1,e2,h1,h2,h3,h4,zal]
    ·simp -implicitDefEqProofs only [Nat.reduceLT,xq_,hq_,Gp,aB,bF.av,Pkt.av,e1,e2,h1,h2,h3,h4,zal,zb0]
   ·simp -implicitDefEqProofs only [Nat.reduceLT,xq_,hq_,Gp,aB,bF.av,Pkt.av,e1,e2,h1,h2,h3,zal,zaQ,zb0]
  ·simp -implicitDefEqProofs only [Nat.reduceLT,xq_,hq_,Gp,aB,bF.av,Pkt.av,e1,e2,h1,h2,zal,zaQ,zb0]
theorem ame(H:aj)(d:bF)(node home:Int)(hl:d.data.length < 1000000000):cl 158 [.agg d.av,I node,I home] H=some (.agg (d.ask node home).av,H):=by
 refine aW rfl rfl (akI _ _ _ _ _) ?_ (kD (Tf _));have e1:=λH k=> Y5 H k;have hd0:dat ([]:List Int)=zN:=by simp [dat,dQ]
 have e5:=λH=> jf H d.data hl;have e6:=λH=> (jr H d.data).lnS;have ebd:∀k,bd 70 [(0,I k),(1,I node),(2,I home),(3,I d.id),(4,I d.line)]=some (.agg [I k,I node,I home,I d.id,I d.line,zI,zI,zB,zN]):=λk=> by
  simp -implicitDefEqProofs only [xq_,wF,gV,dM,O4];rfl
 have ez:bd 70 []=some (.agg zP9):=by simp -implicitDefEqProofs only [xq_,wF,gV,bZ]
 unfold bF.ask;by_cases h1:d.step=1
 ·simp -implicitDefEqProofs only [Nat.reduceLT,Int.reduceEq,Nat.reduceAdd,Nat.reduceLeDiff,setAt,xq_,hq_,Ak,aB,bF.av,e1,h1,ebd,Oh,Pkt.av,hd0]
 ·by_cases h2:d.step=2
  ·simp -implicitDefEqProofs only [Nat.reduceLT,Int.reduceEq,Nat.reduceAdd,Nat.reduceLeDiff,setAt,xq_,hq_,Ak,lS,aB,bF.av,e1,h2,ebd,Oh,Pkt.av,hd0]
  ·by_cases h3:d.step=3
   ·simp -implicitDefEqProofs only [Nat.reduceLT,Int.reduceEq,Nat.reduceAdd,Nat.reduceLeDiff,setAt,xq_,hq_,Ak,lS,aB,bF.av,e1,h3,ebd,Oh,Pkt.av,hd0]
   ·by_cases h4:d.step=4
    ·simp -implicitDefEqProofs only [Nat.reduceLT,Int.reduceEq,Nat.reduceAdd,Nat.reduceLeDiff,setAt,xq_,hq_,Ak,lS,aB,bF.av,e1,h4,ebd,Oh,Pkt.av,hd0,ckN]
    ·by_cases h5:d.step=5
     ·simp -implicitDefEqProofs only [Nat.reduceLT,Int.reduceEq,Nat.reduceAdd,Nat.reduceLeDiff,setAt,xq_,hq_,Ak,lS,aB,bF.av,e1,h5,ebd,Oh,Pkt.av,hd0,ckN]
     ·by_cases h6:d.step=6
      ·have hn:decide (d.data≠[])=decide ((0:Int) < d.data.length):=by
        cases d.data with
        | nil=> rfl
        | cons a l=>
         have:(0:Int) < ((a::l).length:Int):=by simp only [zak];omega
         simp only [this,ne_eq,decide_true];rfl
       simp -implicitDefEqProofs only [Nat.reduceLT,Int.reduceEq,Nat.reduceAdd,Nat.reduceLeDiff,setAt,xq_,hq_,Ak,lS,aB,bF.av,e1,h6,ebd,Oh,Pkt.av,e5,e6,hn,ckN,amd]
      ·simp -implicitDefEqProofs only [Nat.reduceLT,Nat.reduceAdd,Nat.reduceLeDiff,setAt,xq_,hq_,Ak,aB,bF.av,e1,h1,h2,h3,h4,h5,h6,ebd,ez,dN]
abbrev Lcl:=Nat->Option (List AV)
def fO(ls:Lcl)(r:Nat)(xs:List AV):Lcl:=λx=> if x=r then some xs else ls x
def noL:Lcl:=λ_=> none
def lay(g:Store)(ls:Lcl):Store:=λq=> match ls q with
 | some xs=> some (xs.map Cell.av)
 | none=> g q
structure Loc(b:Nat)(K:aj)(g:Store)(ls:Lcl):Prop where
 good:Good b K (lay g ls)
 free:∀r,ls r≠none->g r=none
section
variable {b:Nat}{K:aj}{g:Store}{ls:Lcl}{r q:Nat}{xs:List AV}
theorem ak:fO ls r xs r=some xs:=by simp [fO]
theorem aA {x:Nat}(h:x≠r):fO ls r xs x=ls x:=by simp [fO,h]
theorem Y6:lay g (fO ls r xs)=upd (lay g ls) r (xs.map Cell.av):=by
 funext x
 simp only [lay,fO,upd];by_cases h:x=r
 ·simp [h]
 ·simp [h]
theorem JK {cs:List Cell}(h:ls q=none):lay (upd g q cs) ls=upd (lay g ls) q cs:=by
 funext x
 simp only [lay,upd];by_cases hx:x=q
 ·subst hx;simp [h]
 ·simp [hx]
theorem Loc.of(G:Good b K g):Loc b K g noL:=⟨G,λ_ h=> absurd rfl h⟩
theorem Loc.out(L:Loc b K g ls):Good b K g:=L.good.sub λq cs h=> by
 unfold lay;cases hl:ls q with
 | none=> exact h
 | some xs=> rw [L.free q (by rw [hl];simp)] at h;cases h
theorem Loc.new(L:Loc b K g ls)(o:dR):Loc b (K.new o) g ls:=⟨L.good.new o,L.free⟩
theorem Loc.newL(L:Loc b K g ls){ty:TypeId}(hc:xs.all AV.aH=true)(hr:r=K.next)(ht:ty < eH:=by decide):Loc b (K.new (.blk 0 ty xs)) g (fO ls r xs):=by
 subst hr;refine⟨by rw [Y6];exact L.good.newObj hc ht,λx hx=> ?_⟩;by_cases h:x=K.next
 ·rw [h];exact L.out.isNone (zac _)
 ·rw [aA h] at hx;exact L.free x hx
theorem mY(h:ls r=some xs):lay g ls r=some (xs.map Cell.av):=by simp [lay,h]
theorem Loc.at_(L:Loc b K g ls){cs:List Cell}(h:g q=some cs):lay g ls q=some cs/\ls q=none:=by
 cases hl:ls q with
 | none=> exact⟨by simp [lay,hl,h],rfl⟩
 | some xs=> rw [L.free q (by rw [hl];simp)] at h;cases h
theorem Loc.obj(L:Loc b K g ls){cs:List Cell}(h:g q=some cs):lay g ls q=some cs:=(L.at_ h).1
theorem Loc.ld(L:Loc b K g ls)(h:ls r=some xs){i:Nat}{v:AV}(hi:xs[i]?=some v):ld (.ref r 0 i) K=some (v,K):=
 L.good.load (mY h) (i:=i) (x:=v) (by rw [zaB,hi];rfl)
theorem Loc.lda(L:Loc b K g ls)(h:ls r=some xs){i n:Nat}{ys:List AV}(hi:(xs.drop i).take n=ys)(hn:ys.length=n)(hp:0 < n):lda n (.ref r 0 i) K=some (.agg ys,K):=
 L.good.loads (mY h) (i:=i) (n:=n) (xs:=ys) (by rw [<-hi,List.map_take,List.map_drop]) hn hp
theorem UR {i:Nat}{vs:List AV}:mX (xs.map Cell.av) i vs=(setAt xs i vs).map Cell.av:=by
 simp only [mX,setAt,zbk,List.map_take,List.map_drop]
theorem Loc.agJ(L:Loc b K g ls)(h:ls r=some xs){K':aj}{ys:List AV}(G:Good b K' (upd (lay g ls) r (ys.map Cell.av))):Loc b K' g (fO ls r ys):=by
 refine⟨by rw [Y6];exact G,λx hx=> ?_⟩;by_cases e:x=r
 ·subst e;exact L.free x (by rw [h];simp)
 ·rw [aA e] at hx;exact L.free x hx
theorem Loc.st(L:Loc b K g ls)(hb:K.base<=b)(h:ls r=some xs){i:Nat}{v:AV}(hi:i < xs.length)(hv:One v):∃K',st 1 (.ref r 0 i) v K=some (aO,K')/\Loc b K' g (fO ls r (xs.set i v))/\Step b K K':=by
 obtain⟨K',t1,t2,t3,t4⟩:=L.good.store hb (mY h) (i:=i) (by simpa using hi) hv;rw [<-List.map_set] at t2;exact⟨K',t1,L.agJ h t2,t3⟩
theorem Loc.sta(L:Loc b K g ls)(hb:K.base<=b)(h:ls r=some xs){i n:Nat}{vs:List AV}(hi:i+n<=xs.length)(hn:vs.length=n)(hv:vs.all AV.aH=true):∃K',Proofs.YthmoogcacpmjiaaGreat.st n (.ref r 0 i) (.agg vs) K=some (aO,K')/\Loc b K' g (fO ls r (setAt xs i vs))/\Step b K K':=by
 obtain⟨K',t1,t2,t3,t4⟩:=L.good.stores hb (mY h) (i:=i) (by simpa using hi) hn hv;rw [UR] at t2;exact⟨K',t1,L.agJ h t2,t3⟩
theorem Y7 {vs:List AV}(h:vs.length=xs.length):setAt xs 0 vs=vs:=by
 unfold setAt;rw [List.take_zero,zaX,za7,zaU (by omega),zbh]
theorem Loc.whole(L:Loc b K g ls)(hb:K.base<=b)(h:ls r=some xs){n:Nat}{vs:List AV}(hx:xs.length=n)(hn:vs.length=n)(hp:0 < n)(hv:vs.all AV.aH=true):∃K',Proofs.YthmoogcacpmjiaaGreat.st n (.ref r 0 0) (.agg vs) K=some (aO,K')/\Proofs.YthmoogcacpmjiaaGreat.lda n (.ref r 0 0) K'=some (.agg vs,K')/\Loc b K' g (fO ls r vs)/\Step b K K':=by
 obtain⟨K',t1,t2,t3⟩:=L.sta hb h (i:=0) (n:=n) (vs:=vs) (by omega) hn hv;rw [Y7 (by omega)] at t2;exact⟨K',t1,t2.lda ak (i:=0) (n:=n) (by rw [zaP,zas (by omega)]) hn hp,t2,t3⟩
theorem Loc.call(L:Loc b K g ls){cs0 cs:List Cell}(hq:g q=some cs0){K':aj}(G:Good b K' (upd (lay g ls) q cs)):Loc b K' (upd g q cs) ls:=by
 obtain⟨h1,h2⟩:=L.at_ hq;refine⟨by rw [JK h2];exact G,λr hr=> ?_⟩;have hne:r≠q:=λe=> by subst e;exact hr h2
 rw [upd_ne hne];exact L.free r hr
theorem Good.exact {b:Nat}{K:aj}{g:Store}{r:Nat}{xs:List AV}(G:Good b K g)(h:g r=some (xs.map Cell.av)):∃ty,K.get r=.blk 0 ty xs/\ty < eH:=by
 obtain⟨_,τ,hR⟩:=G;have R:=hR r _ h;obtain⟨ty,ys,h1,h2,h3,h4⟩:=R.blk;have:ys=xs:=by
  apply za6
  intro i;rcases zaR i xs.length with hi | hi
  ·have hx:ys[i]?=some (ys[i]'(by simp at h2;omega)):=zab _;have:=h4 i (.av xs[i]) _ (by simp [hi]) hx;simp only [CR] at this;rw [hx,this];simp [hi]
  ·rw [zaG (by simp at h2;omega),zaG hi]
 subst this;exact⟨ty,h1,R.tyl _ _ _ h1⟩
theorem JL {b:Nat}{K K':aj}{g g':Store}{r:Nat}{xs:List AV}(G:Good b K g)(G':Good b K' g')(hk:Keeps K K')(h:g r=some (xs.map Cell.av))(h':g' r=some (xs.map Cell.av)):K'.get r=K.get r:=by
 have hr:=G.lt h;obtain⟨ty,e1,t1⟩:=G.exact h;obtain⟨ty',e2,t2⟩:=G'.exact h';obtain⟨g2,ty2,c2,e3,k⟩:=hk.types r hr _ _ _ e1;rw [e2] at e3;cases e3;rcases k with rfl | k
 ·rw [e1,e2]
 ·exact absurd k (Nat.not_le.2 t2)
end
structure COk(ca:Cache):Prop where
 len:ca.l.length < 1000000
 sets:1<=ca.sets
 clk:0<=ca.clock/\ca.clock < 1000000000
 dat:∀e∈ca.l,e.data.length < 1000000000
 used:∀e∈ca.l,0<=e.used/\e.used < 1000000000
theorem yD {b:Nat}{H:aj}{g:Store}{q:Nat}(G:Good b H g)(hb:H.base<=b){c:Cache}(h:g q=some (bC c))(C:COk c)(e:Ent)(hel:e.data.length < 1000000000):
  ∃H',cl 157 [.ref q 0 0,.agg e.av] H=some (I (c.put e).2,H')/\Good b H' (upd g q (bC (c.put e).1))/\Step b H H':=
 SX G hb h C.len C.sets C.clk e hel (nC _ e.data)
def qI(n:Nxt):AV:=.tup [.agg n.2.1.av,B n.2.2]
abbrev zD9:List AV:=[zI,zI,zI,zI,zI,zI,zN,zI,zI]
theorem Au:dat ([]:List Int)=zN:=by simp [dat,dQ]
section
variable {b:Nat}{H:aj}{g:Store}{q:Nat}{ca:Cache}
theorem agN(G:Good b H g)(hb:H.base<=b)(h:g q=some (bC ca))(C:COk ca)(d:bF)(node:Int)(p:Pkt)(hp:p.data.length < 1000000000):
  ∃H',cl 186 [.agg d.av,I node,.ref q 0 0,.agg p.av] H=some (qI ((ca.put ⟨d.head,-1,d.line,0,false,p.data⟩).1,{ d with step:=6,state:=1,head:=node,data:=if p.flag then p.data else [] },true),H')/\
   Good b H' (upd g q (bC (ca.put ⟨d.head,-1,d.line,0,false,p.data⟩).1))/\Step b H H':=by
 refine jw rfl rfl (ak9 _ _ _ _ _ _) ?_;have L1:=(Loc.of G).newL (ty:=57) (xs:=d.av) (r:=H.next) (aP d) rfl;have L2:=L1.newL (ty:=70) (xs:=p.av) (r:=H.next+1) (aJ p) (by rw [nNew]);have L3:=L2.newL (ty:=57) (xs:=zD9) (r:=H.next+1+1) rfl (by rw [nNew,nNew]);have s3:Step b H _:=((Step.new (.blk 0 57 d.av) G.1).trans (Step.new (.blk 0 70 p.av) L1.good.1)).trans (Step.new (.blk 0 57 zD9) L2.good.1);have d1:=L3.ld (r:=H.next) (i:=1) (v:=I d.line) (by first | exact ak | (rw [aA (by omega)];first | exact ak | (rw [aA (by omega)];first | exact ak | (rw [aA (by omega)];first | exact ak | (rw [aA (by omega)];first | exact ak | (rw [aA (by omega)];exact ak)))))) rfl;have d5:=L3.ld (r:=H.next) (i:=5) (v:=I d.head) (by first | exact ak | (rw [aA (by omega)];first | exact ak | (rw [aA (by omega)];first | exact ak | (rw [aA (by omega)];first | exact ak | (rw [aA (by omega)];first | exact ak | (rw [aA (by omega)];exact ak)))))) rfl;have p8:=L3.ld (r:=H.next+1) (i:=8) (v:=dat p.data) (by first | exact ak | (rw [aA (by omega)];first | exact ak | (rw [aA (by omega)];first | exact ak | (rw [aA (by omega)];first | exact ak | (rw [aA (by omega)];first | exact ak | (rw [aA (by omega)];exact ak)))))) rfl;have e1:=λH=> YP H d.line d.head (-1) false hp (nC H p.data);obtain⟨K1,a1,a2,a3⟩:=yD L3.good (by rw [s3.base];exact hb) (L3.obj h) C ⟨d.head,-1,d.line,0,false,p.data⟩ hp;have M1:=L3.call h a2;have t1:=s3.trans a3;obtain⟨K2,u2,M2,w2⟩:=M1.st (by rw [t1.base];exact hb) (r:=H.next) (by first | exact ak | (rw [aA (by omega)];first | exact ak | (rw [aA (by omega)];first | exact ak | (rw [aA (by omega)];first | exact ak | (rw [aA (by omega)];first | exact ak | (rw [aA (by omega)];exact ak)))))) (i:=3) (v:=I 6) (by simp [bF.av]) bJ;have t2:=t1.trans w2;obtain⟨K3,u3,M3,w3⟩:=M2.st (by rw [t2.base];exact hb) (r:=H.next) (by first | exact ak | (rw [aA (by omega)];first | exact ak | (rw [aA (by omega)];first | exact ak | (rw [aA (by omega)];first | exact ak | (rw [aA (by omega)];first | exact ak | (rw [aA (by omega)];exact ak)))))) (i:=4) (v:=I 1) (by simp [bF.av]) bJ;have t3:=t2.trans w3;obtain⟨K4,u4,M4,w4⟩:=M3.st (by rw [t3.base];exact hb) (r:=H.next) (by first | exact ak | (rw [aA (by omega)];first | exact ak | (rw [aA (by omega)];first | exact ak | (rw [aA (by omega)];first | exact ak | (rw [aA (by omega)];first | exact ak | (rw [aA (by omega)];exact ak)))))) (i:=5) (v:=I node) (by simp [bF.av]) bJ;have t4:=t3.trans w4;obtain⟨K5,u5,M5,w5⟩:=M4.st (by rw [t4.base];exact hb) (r:=H.next) (by first | exact ak | (rw [aA (by omega)];first | exact ak | (rw [aA (by omega)];first | exact ak | (rw [aA (by omega)];first | exact ak | (rw [aA (by omega)];first | exact ak | (rw [aA (by omega)];exact ak)))))) (i:=6) (v:=zN) (by simp [bF.av]) mJ;have t5:=t4.trans w5
 have p7:=M5.ld (r:=H.next+1) (i:=7) (v:=B p.flag) (by first | exact ak | (rw [aA (by omega)];first | exact ak | (rw [aA (by omega)];first | exact ak | (rw [aA (by omega)];first | exact ak | (rw [aA (by omega)];first | exact ak | (rw [aA (by omega)];exact ak)))))) rfl;cases hf:p.flag with
 | true=>
  rw [hf] at p7;have q8:=M5.ld (r:=H.next+1) (i:=8) (v:=dat p.data) (by first | exact ak | (rw [aA (by omega)];first | exact ak | (rw [aA (by omega)];first | exact ak | (rw [aA (by omega)];first | exact ak | (rw [aA (by omega)];first | exact ak | (rw [aA (by omega)];exact ak)))))) rfl;have e2:=λH=> jf H p.data hp;obtain⟨K6,u6,M6,w6⟩:=M5.st (by rw [t5.base];exact hb) (r:=H.next) (by first | exact ak | (rw [aA (by omega)];first | exact ak | (rw [aA (by omega)];first | exact ak | (rw [aA (by omega)];first | exact ak | (rw [aA (by omega)];first | exact ak | (rw [aA (by omega)];exact ak)))))) (i:=6) (v:=dat p.data) (by simp [bF.av]) pK;have t6:=t5.trans w6;have f1:=M6.lda (r:=H.next) (by first | exact ak | (rw [aA (by omega)];first | exact ak | (rw [aA (by omega)];first | exact ak | (rw [aA (by omega)];first | exact ak | (rw [aA (by omega)];first | exact ak | (rw [aA (by omega)];exact ak)))))) (i:=0) (n:=9) (ys:=(bF.mk d.kind d.line d.id 6 1 node p.data d.next d.told).av) rfl rfl (by decide);obtain⟨K7,u7,v7,M7,w7⟩:=M6.whole (by rw [t6.base];exact hb) (r:=H.next+1+1) (by first | exact ak | (rw [aA (by omega)];first | exact ak | (rw [aA (by omega)];first | exact ak | (rw [aA (by omega)];first | exact ak | (rw [aA (by omega)];first | exact ak | (rw [aA (by omega)];exact ak)))))) (n:=9) (vs:=(bF.mk d.kind d.line d.id 6 1 node p.data d.next d.told).av) rfl rfl (by decide) (aP _);refine⟨K7,?_,M7.out,t6.trans w7⟩;simp -implicitDefEqProofs only [Nat.reduceLT,Int.reduceNeg,xq_,X5,BX,aB (aP d),aB (aJ p),d1,d5,p8,e1,a1,u2,u3,u4,u5,p7,q8,e2,u6,f1,u7,v7,qI]
 | false=>
  rw [hf] at p7;have f1:=M5.lda (r:=H.next) (by first | exact ak | (rw [aA (by omega)];first | exact ak | (rw [aA (by omega)];first | exact ak | (rw [aA (by omega)];first | exact ak | (rw [aA (by omega)];first | exact ak | (rw [aA (by omega)];exact ak)))))) (i:=0) (n:=9) (ys:=(bF.mk d.kind d.line d.id 6 1 node [] d.next d.told).av) (by simp only [bF.av,Au];rfl) rfl (by decide);obtain⟨K7,u7,v7,M7,w7⟩:=M5.whole (by rw [t5.base];exact hb) (r:=H.next+1+1) (by first | exact ak | (rw [aA (by omega)];first | exact ak | (rw [aA (by omega)];first | exact ak | (rw [aA (by omega)];first | exact ak | (rw [aA (by omega)];first | exact ak | (rw [aA (by omega)];exact ak)))))) (n:=9) (vs:=(bF.mk d.kind d.line d.id 6 1 node [] d.next d.told).av) rfl rfl (by decide) (aP _);refine⟨K7,?_,M7.out,t5.trans w7⟩;simp -implicitDefEqProofs only [Nat.reduceLT,Int.reduceNeg,xq_,X5,BX,aB (aP d),aB (aJ p),d1,d5,p8,e1,a1,u2,u3,u4,u5,p7,f1,u7,v7,qI]
def rX(d:bF)(node:Int)(c:Cache)(p:Pkt):Nxt:=
 if p.state≠0 then(c,{ d with state:=p.state,head:=p.ptr,told:=p.ptr,data:=p.data,step:=2 },true)
 else((c.put ⟨-1,-1,d.line,0,false,p.data⟩).1,{ d with told:=p.ptr,step:=6,state:=1,head:=node,data:=[] },true)
theorem Y8(G:Good b H g)(hb:H.base<=b)(h:g q=some (bC ca))(C:COk ca)(d:bF)(node:Int)(p:Pkt)(hp:p.data.length < 1000000000):
  ∃H',cl 185 [.agg d.av,I node,.ref q 0 0,.agg p.av] H=some (qI (rX d node ca p),H')/\Good b H' (upd g q (bC (rX d node ca p).1))/\Step b H H':=by
 have hb0:H.base<=H.next:=zaz hb G.1
 have e2:=λH=> jf H p.data hp;refine jw rfl rfl (ak8 _ _ _ _ _ _) ?_;by_cases hs:p.state=0;rotate_left
 ·have hm:rX d node ca p=(ca,{ d with state:=p.state,head:=p.ptr,told:=p.ptr,data:=p.data,step:=2 },true):=by simp only [rX];rw [if_pos hs]
  rw [hm];refine⟨((H.new (.blk 0 57 (bF.mk d.kind d.line d.id 2 p.state p.ptr p.data d.next p.ptr).av)).new (.blk 0 70 p.av)).new (.blk 0 57 (bF.mk d.kind d.line d.id 2 p.state p.ptr p.data d.next p.ptr).av),?_,by rw [dO h];exact((G.new _).new _).new _,((Step.new _ G.1).trans (Step.new _ (G.new _).1)).trans (Step.new _ ((G.new _).new _).1)⟩;simp -implicitDefEqProofs only [Nat.reduceLT,Int.reduceNeg,Nat.reduceAdd,Nat.reduceLeDiff,setAt,xq_,hq_,X4,aB,bF.av,Pkt.av,e2,hb0,ckM,hs,zal,qI]
 ·have hm:rX d node ca p=((ca.put ⟨-1,-1,d.line,0,false,p.data⟩).1,{ d with told:=p.ptr,step:=6,state:=1,head:=node,data:=[] },true):=by simp only [rX];rw [if_neg (λh=> h hs)]
  rw [hm];let d2:bF:=bF.mk d.kind d.line d.id d.step p.state p.ptr p.data d.next p.ptr
  have L1:=(Loc.of G).newL (ty:=57) (xs:=d2.av) (r:=H.next) (aP d2) rfl;have L2:=L1.newL (ty:=70) (xs:=p.av) (r:=H.next+1) (aJ p) (by rw [nNew]);have L3:=L2.newL (ty:=57) (xs:=zD9) (r:=H.next+1+1) rfl (by rw [nNew,nNew]);have s3:Step b H _:=((Step.new (.blk 0 57 d2.av) G.1).trans (Step.new (.blk 0 70 p.av) L1.good.1)).trans (Step.new (.blk 0 57 zD9) L2.good.1);have e1:=λH=> YP H d.line (-1) (-1) false hp (nC H p.data);obtain⟨K1,a1,a2,a3⟩:=yD L3.good (by rw [s3.base];exact hb) (L3.obj h) C ⟨-1,-1,d.line,0,false,p.data⟩ hp;have M1:=L3.call h a2;have t1:=s3.trans a3;obtain⟨K2,u2,M2,w2⟩:=M1.st (by rw [t1.base];exact hb) (r:=H.next) (by first | exact ak | (rw [aA (by omega)];first | exact ak | (rw [aA (by omega)];first | exact ak | (rw [aA (by omega)];first | exact ak | (rw [aA (by omega)];first | exact ak | (rw [aA (by omega)];exact ak)))))) (i:=3) (v:=I 6) (by simp [bF.av]) bJ;have t2:=t1.trans w2;obtain⟨K3,u3,M3,w3⟩:=M2.st (by rw [t2.base];exact hb) (r:=H.next) (by first | exact ak | (rw [aA (by omega)];first | exact ak | (rw [aA (by omega)];first | exact ak | (rw [aA (by omega)];first | exact ak | (rw [aA (by omega)];first | exact ak | (rw [aA (by omega)];exact ak)))))) (i:=4) (v:=I 1) (by simp [bF.av]) bJ;have t3:=t2.trans w3;obtain⟨K4,u4,M4,w4⟩:=M3.st (by rw [t3.base];exact hb) (r:=H.next) (by first | exact ak | (rw [aA (by omega)];first | exact ak | (rw [aA (by omega)];first | exact ak | (rw [aA (by omega)];first | exact ak | (rw [aA (by omega)];first | exact ak | (rw [aA (by omega)];exact ak)))))) (i:=5) (v:=I node) (by simp [bF.av]) bJ;have t4:=t3.trans w4;obtain⟨K5,u5,M5,w5⟩:=M4.st (by rw [t4.base];exact hb) (r:=H.next) (by first | exact ak | (rw [aA (by omega)];first | exact ak | (rw [aA (by omega)];first | exact ak | (rw [aA (by omega)];first | exact ak | (rw [aA (by omega)];first | exact ak | (rw [aA (by omega)];exact ak)))))) (i:=6) (v:=zN) (by simp [bF.av]) mJ;have t5:=t4.trans w5;have f1:=M5.lda (r:=H.next) (by first | exact ak | (rw [aA (by omega)];first | exact ak | (rw [aA (by omega)];first | exact ak | (rw [aA (by omega)];first | exact ak | (rw [aA (by omega)];first | exact ak | (rw [aA (by omega)];exact ak)))))) (i:=0) (n:=9) (ys:=(bF.mk d.kind d.line d.id 6 1 node [] d.next p.ptr).av) (by simp only [bF.av,Au];rfl) rfl (by decide);obtain⟨K7,u7,v7,M7,w7⟩:=M5.whole (by rw [t5.base];exact hb) (r:=H.next+1+1) (by first | exact ak | (rw [aA (by omega)];first | exact ak | (rw [aA (by omega)];first | exact ak | (rw [aA (by omega)];first | exact ak | (rw [aA (by omega)];first | exact ak | (rw [aA (by omega)];exact ak)))))) (n:=9) (vs:=(bF.mk d.kind d.line d.id 6 1 node [] d.next p.ptr).av) rfl rfl (by decide) (aP _);refine⟨K7,?_,M7.out,t5.trans w7⟩;simp only [d2,bF.av,Pkt.av,hs,Au] at a1 f1 u7 v7;simp -implicitDefEqProofs only [Nat.reduceLT,Int.reduceNeg,Nat.reduceAdd,Nat.reduceLeDiff,setAt,xq_,hq_,X4,aB,bF.av,Pkt.av,e2,hb0,ckM,hs,zae,e1,a1,u2,u3,u4,u5,f1,u7,v7,qI,Au]
theorem rY(G:Good b H g)(d:bF)(p:Pkt):∃ls:Lcl,Loc b (((H.new (.blk 0 57 d.av)).new (.blk 0 70 p.av)).new (.blk 0 57 zD9)) g ls/\ls H.next=some d.av/\ls (H.next+1)=some p.av/\ls (H.next+1+1)=some zD9/\
  Step b H (((H.new (.blk 0 57 d.av)).new (.blk 0 70 p.av)).new (.blk 0 57 zD9)):=by
 have L1:=(Loc.of G).newL (ty:=57) (xs:=d.av) (r:=H.next) (aP d) rfl;have L2:=L1.newL (ty:=70) (xs:=p.av) (r:=H.next+1) (aJ p) (by rw [nNew]);have L3:=L2.newL (ty:=57) (xs:=zD9) (r:=H.next+1+1) rfl (by rw [nNew,nNew]);exact⟨_,L3,(by first | exact ak | (rw [aA (by omega)];first | exact ak | (rw [aA (by omega)];first | exact ak | (rw [aA (by omega)];first | exact ak | (rw [aA (by omega)];first | exact ak | (rw [aA (by omega)];exact ak)))))),(by first | exact ak | (rw [aA (by omega)];first | exact ak | (rw [aA (by omega)];first | exact ak | (rw [aA (by omega)];first | exact ak | (rw [aA (by omega)];first | exact ak | (rw [aA (by omega)];exact ak)))))),(by first | exact ak | (rw [aA (by omega)];first | exact ak | (rw [aA (by omega)];first | exact ak | (rw [aA (by omega)];first | exact ak | (rw [aA (by omega)];first | exact ak | (rw [aA (by omega)];exact ak)))))),((Step.new (.blk 0 57 d.av) G.1).trans (Step.new (.blk 0 70 p.av) L1.good.1)).trans (Step.new (.blk 0 57 zD9) L2.good.1)⟩
theorem Y9(G:Good b H g)(hb:H.base<=b)(h:g q=some (bC ca))(C:COk ca)(d:bF)(node:Int)(p:Pkt)(hp:p.data.length < 1000000000):
  ∃H',cl 151 [.agg d.av,I node,.ref q 0 0,.agg p.av] H=some (qI (bV d node ca p),H')/\Good b H' (upd g q (bC (bV d node ca p).1))/\Step b H H':=by
 refine jw rfl rfl (akA _ _ _ _ _ _) ?_;obtain⟨ls,L,k0,k1,k2,s⟩:=rY G d p;have d0:=L.ld k0 (i:=0) (v:=I d.kind) rfl;have d3:=L.ld k0 (i:=3) (v:=I d.step) rfl;have dA:=L.lda k0 (i:=0) (n:=9) (ys:=d.av) rfl rfl (by decide);have pA:=L.lda k1 (i:=0) (n:=9) (ys:=p.av) rfl rfl (by decide);have hf:=λH=> Qj H d p;have ez:bd 57 []=some (.agg zD9):=by simp -implicitDefEqProofs only [xq_,Ug,gV,bZ]
 have hbK:(((H.new (.blk 0 57 d.av)).new (.blk 0 70 p.av)).new (.blk 0 57 zD9)).base<=b:=by rw [s.base];exact hb
 obtain⟨Kz,z1,z2,z3,z4⟩:=L.whole hbK k2 (n:=9) (vs:=zD9) rfl rfl (by decide) rfl;have no:oD ca=(ca,.zero,false):=rfl;have zu:Good b Kz (upd g q (bC ca)):=by rw [dO h];exact z3.out
 by_cases h1:d.kind≠1∨d.fits p=false
 ·have hm:bV d node ca p=(ca,.zero,false):=by simp only [bV];rw [if_pos h1];rfl
  rw [hm];refine⟨Kz,?_,zu,s.trans z4⟩;by_cases hk:d.kind=1
  ·have hff:d.fits p=false:=h1.resolve_left (λh=> h hk);rw [hk] at d0;simp -implicitDefEqProofs only [Nat.reduceLT,xq_,Ej,aB (aP d),aB (aJ p),d0,dA,pA,hf,hff,zae,zal,ez,z1,z2,qI,jV]
  ·simp -implicitDefEqProofs only [Nat.reduceLT,xq_,Ej,aB (aP d),aB (aJ p),d0,hk,zal,ez,z1,z2,qI,jV]
 ·have hk:d.kind=1:=Classical.byContradiction λh=> h1 (.inl h);have hff:d.fits p=true:=by cases hx:d.fits p <;> simp_all
  rw [hk] at d0;by_cases s1:d.step=1
  ·have hm:bV d node ca p=rX d node ca p:=by simp only [bV,rX];rw [if_neg h1,if_pos s1]
   rw [hm];rw [s1] at d3;obtain⟨K1,a1,a2,a3⟩:=Y8 L.good hbK (L.obj h) C d node p hp;have M:=L.call h a2;obtain⟨K2,u1,u2,u3,u4⟩:=M.whole (by rw [a3.base];exact hbK) k2 (n:=9) (vs:=(rX d node ca p).2.1.av) rfl rfl (by decide) (aP _);refine⟨K2,?_,u3.out,(s.trans a3).trans u4⟩;simp only [qI] at a1;simp -implicitDefEqProofs only [Nat.reduceLT,Int.reduceEq,xq_,Ej,aB (aP d),aB (aJ p),d0,dA,pA,hf,hff,zae,d3,a1,u1,u2,qI]
  ·by_cases s2:d.step=2
   ·have hm:bV d node ca p=((ca.put ⟨d.head,-1,d.line,0,false,p.data⟩).1,{ d with step:=6,state:=1,head:=node,data:=if p.flag then p.data else [] },true):=by simp only [bV];rw [if_neg h1,if_neg s1,if_pos s2]
    rw [hm];obtain⟨K1,a1,a2,a3⟩:=agN L.good hbK (L.obj h) C d node p hp;have M:=L.call h a2;obtain⟨K2,u1,u2,u3,u4⟩:=M.whole (by rw [a3.base];exact hbK) k2 (n:=9) (vs:=({ d with step:=6,state:=1,head:=node,data:=if p.flag then p.data else [] }:bF).av) rfl rfl (by decide) (aP _);refine⟨K2,?_,u3.out,(s.trans a3).trans u4⟩;rw [s2] at d3;simp only [qI] at a1;simp -implicitDefEqProofs only [Nat.reduceLT,Int.reduceEq,xq_,Ej,aB (aP d),aB (aJ p),d0,dA,pA,hf,hff,zae,d3,a1,u1,u2,qI]
   ·by_cases s6:d.step=6
    ·have hm:bV d node ca p=(ca,{ d with step:=0 },true):=by simp only [bV];rw [if_neg h1,if_neg s1,if_neg s2,if_pos s6]
     rw [hm];obtain⟨K1,a1,M,a3⟩:=L.st hbK k0 (i:=3) (v:=I 0) (by simp [bF.av]) bJ;have k2':fO ls H.next (d.av.set 3 (I 0)) (H.next+1+1)=some zD9:=by rw [aA (by omega)];exact k2
     have dB:=M.lda ak (i:=0) (n:=9) (ys:=({ d with step:=0 }:bF).av) rfl rfl (by decide);obtain⟨K2,u1,u2,u3,u4⟩:=M.whole (by rw [a3.base];exact hbK) k2' (n:=9) (vs:=({ d with step:=0 }:bF).av) rfl rfl (by decide) (aP _);refine⟨K2,?_,by rw [dO h];exact u3.out,(s.trans a3).trans u4⟩;rw [s6] at d3;simp -implicitDefEqProofs only [Nat.reduceLT,Int.reduceEq,xq_,Ej,aB (aP d),aB (aJ p),d0,dA,pA,hf,hff,zae,d3,a1,dB,u1,u2,qI]
    ·have hm:bV d node ca p=(ca,.zero,false):=by simp only [bV];rw [if_neg h1,if_neg s1,if_neg s2,if_neg s6];rfl
     rw [hm];refine⟨Kz,?_,zu,s.trans z4⟩;simp -implicitDefEqProofs only [Nat.reduceLT,xq_,Ej,aB (aP d),aB (aJ p),d0,dA,pA,hf,hff,zae,d3,s1,s2,s6,ez,z1,z2,qI,jV]
end
abbrev zE6:List AV:=[zI,zI,zI,zI,zB,zN]
theorem lV {n r gg i:Nat}{v u:AV}{K K':aj}(h:st n (.ref r gg i) v K=some (u,K')){x:Nat}(hx:x≠r):K'.get x=K.get x:=by
 unfold st at h;simp only at h;cases hr:K.get r with
 | map k es=> rw [hr] at h;cases h
 | blk g' ty cells=>
  rw [hr] at h;simp only at h;split at h
  ·simp only [zaa,zad] at h;rw [<-h.2,get_put,if_neg hx]
  ·cases h
section
variable {b:Nat}{H:aj}{g:Store}{q:Nat}{ca:Cache}
def rZ(d:bF)(node:Int)(c:Cache):Cache × bF:=
 if d.next≠-1 then(c,{ d with step:=3 })
 else((c.put ⟨-1,-1,d.line,0,true,d.data⟩).1,{ d with step:=6,state:=2,head:=node,data:=[] })
theorem zS {K:aj}{ls:Lcl}(L:Loc b K g ls)(hb:K.base<=b)(h:g q=some (bC ca))(C:COk ca)(d:bF)(node:Int)(hd:d.data.length < 1000000000){r r':Nat}(hrr:r≠r')(k0:ls r=some d.av)(k1:ls r'=some zD9):
  ∃H',yh cl (I node) (.ref q 0 0) (.ref r 0 0) (.ref r' 0 0) K=some (.agg (rZ d node ca).2.av,H')/\Good b H' (upd g q (bC (rZ d node ca).1))/\Step b K H':=by
 have d7:=L.ld k0 (i:=7) (v:=I d.next) rfl;by_cases hn:d.next=-1
 rotate_left
 ·have hm:rZ d node ca=(ca,{ d with step:=3 }):=by unfold rZ;rw [if_pos hn]
  rw [hm];obtain⟨K1,a1,M1,a3⟩:=L.st hb k0 (i:=3) (v:=I 3) (by simp [bF.av]) bJ;have k2':fO ls r (d.av.set 3 (I 3)) r'=some zD9:=by rw [aA hrr.symm];exact k1
  have dB:=M1.lda ak (i:=0) (n:=9) (ys:=({ d with step:=3 }:bF).av) rfl rfl (by decide);obtain⟨K2,u1,u2,u3,u4⟩:=M1.whole (by rw [a3.base];exact hb) k2' (n:=9) (vs:=({ d with step:=3 }:bF).av) rfl rfl (by decide) (aP _);refine⟨K2,?_,by rw [dO h];exact u3.out,a3.trans u4⟩;simp -implicitDefEqProofs only [Int.reduceNeg,xq_,yh,d7,hn,zal,a1,dB,u1,u2]
 ·have hm:rZ d node ca=((ca.put ⟨-1,-1,d.line,0,true,d.data⟩).1,{ d with step:=6,state:=2,head:=node,data:=[] }):=by unfold rZ;rw [if_neg (λh=> h hn)]
  rw [hm];have d1:=L.ld k0 (i:=1) (v:=I d.line) rfl;have d6:=L.ld k0 (i:=6) (v:=dat d.data) rfl;have e1:=λH=> YP H d.line (-1) (-1) true hd (nC H d.data);obtain⟨K1,a1,a2,a3⟩:=yD L.good hb (L.obj h) C ⟨-1,-1,d.line,0,true,d.data⟩ hd;have M1:=L.call h a2;obtain⟨K2,u2,M2,w2⟩:=M1.st (by rw [a3.base];exact hb) k0 (i:=3) (v:=I 6) (by simp [bF.av]) bJ;have t2:=a3.trans w2;obtain⟨K3,u3,M3,w3⟩:=M2.st (by rw [t2.base];exact hb) ak (i:=4) (v:=I 2) (by simp [bF.av]) bJ;have t3:=t2.trans w3;obtain⟨K4,u4,M4,w4⟩:=M3.st (by rw [t3.base];exact hb) ak (i:=5) (v:=I node) (by simp [bF.av]) bJ;have t4:=t3.trans w4;obtain⟨K5,u5,M5,w5⟩:=M4.st (by rw [t4.base];exact hb) ak (i:=6) (v:=zN) (by simp [bF.av]) mJ;have t5:=t4.trans w5;have f1:=M5.lda ak (i:=0) (n:=9) (ys:=(bF.mk d.kind d.line d.id 6 2 node [] d.next d.told).av) (by simp only [bF.av,Au];rfl) rfl (by decide);have hne:r'≠r:=hrr.symm;obtain⟨K7,u7,v7,M7,w7⟩:=M5.whole (by rw [t5.base];exact hb) (r:=r') (xs:=zD9) (by rw [aA hne,aA hne,aA hne,aA hne];exact k1) (n:=9) (vs:=(bF.mk d.kind d.line d.id 6 2 node [] d.next d.told).av) rfl rfl (by decide) (aP _);refine⟨K7,?_,M7.out,t5.trans w7⟩;simp only [hn] at u7 v7;simp -implicitDefEqProofs only [Int.reduceNeg,xq_,yh,d7,hn,zae,d1,d6,e1,a1,u2,u3,u4,u5,f1,u7,v7]
theorem agO(G:Good b H g)(hb:H.base<=b)(h:g q=some (bC ca))(C:COk ca)(d:bF)(node:Int)(hd:d.data.length < 1000000000):
  ∃H',cl 187 [.agg d.av,I node,.ref q 0 0] H=some (.agg (bD d node ca).2.av,H')/\Good b H' (upd g q (bC (bD d node ca).1))/\Step b H H':=by
 refine jw rfl rfl (ala _ _ _ _ _) ?_;have L1:=(Loc.of G).newL (ty:=57) (xs:=d.av) (r:=H.next) (aP d) rfl;have L2:=L1.newL (ty:=57) (xs:=zD9) (r:=H.next+1) rfl (by rw [nNew]);have d1:=L2.ld (r:=H.next) (i:=1) (v:=I d.line) (by(repeat rw [aA (by omega)]);first | exact k0 | exact k1 | exact k2 | rw [ak]) rfl;have ef:=oq L2.good (L2.obj h) C.len C.dat d.line;have L3:=L2.newL (ty:=93) (xs:=zE6) (r:=H.next+1+1) rfl (by rw [nNew,nNew]);have s3:Step b H _:=((Step.new (.blk 0 57 d.av) G.1).trans (Step.new (.blk 0 57 zD9) L1.good.1)).trans (Step.new (.blk 0 93 zE6) L2.good.1);obtain⟨K1,z1,z2,M,z4⟩:=L3.whole (by rw [s3.base];exact hb) (r:=H.next+1+1) (xs:=zE6) (by(repeat rw [aA (by omega)]);first | exact k0 | exact k1 | exact k2 | rw [ak]) (n:=6) (vs:=((ca.find d.line).getD .zero).av) rfl rfl (by decide) (jK _);have t1:=s3.trans z4;have d7:=M.ld (r:=H.next) (i:=7) (v:=I d.next) (by(repeat rw [aA (by omega)]);first | exact k0 | exact k1 | exact k2 | rw [ak]) rfl;simp only [mg] at ef;cases hfd:ca.find d.line with
 | none=>
  have hm:bD d node ca=rZ d node ca:=by simp only [bD,hfd];rfl
  rw [hm];rw [hfd] at ef z1;simp only [zaL] at ef;obtain⟨K2,u1,u2,u3⟩:=zS M (by rw [t1.base];exact hb) h C d node hd (r:=H.next) (r':=H.next+1) (by omega) (by(repeat rw [aA (by omega)]);first | exact k0 | exact k1 | exact k2 | rw [ak]) (by(repeat rw [aA (by omega)]);first | exact k0 | exact k1 | exact k2 | rw [ak]);refine⟨K2,?_,u2,t1.trans u3⟩;by_cases hn:d.next=node
  ·rw [hn] at d7;simp -implicitDefEqProofs only [Nat.reduceLT,xq_,MB,aB (aP d),d1,ef,z1,d7];exact u1
  ·simp -implicitDefEqProofs only [Nat.reduceLT,xq_,MB,aB (aP d),d1,ef,z1,d7,hn];exact u1
 | some own=>
  rw [hfd] at ef z1 M;simp only [zaM,zay] at ef z1 M;by_cases hn:d.next=node
  ·have hm:bD d node ca=rZ { d with next:=own.fwd } node ca:=by simp only [bD,hfd];rw [if_pos hn];rfl
   rw [hm];have e0:=M.ld (r:=H.next+1+1) (i:=0) (v:=I own.fwd) (by(repeat rw [aA (by omega)]);first | exact k0 | exact k1 | exact k2 | rw [ak]) rfl;obtain⟨K2,y1,M2,y3⟩:=M.st (by rw [t1.base];exact hb) (r:=H.next) (xs:=d.av) (by(repeat rw [aA (by omega)]);first | exact k0 | exact k1 | exact k2 | rw [ak]) (i:=7) (v:=I own.fwd) (by simp [bF.av]) bJ;have t2:=t1.trans y3;obtain⟨K3,u1,u2,u3⟩:=zS M2 (by rw [t2.base];exact hb) h C { d with next:=own.fwd } node hd (r:=H.next) (r':=H.next+1) (by omega) (by rw [ak];rfl) (by(repeat rw [aA (by omega)]);first | exact k0 | exact k1 | exact k2 | rw [ak]);refine⟨K3,?_,u2,t2.trans u3⟩;rw [hn] at d7;simp -implicitDefEqProofs only [Nat.reduceLT,xq_,MB,aB (aP d),d1,ef,z1,d7,e0,y1];exact u1
  ·have hm:bD d node ca=rZ d node ca:=by simp only [bD,hfd];rw [if_neg hn];rfl
   rw [hm];obtain⟨K2,u1,u2,u3⟩:=zS M (by rw [t1.base];exact hb) h C d node hd (r:=H.next) (r':=H.next+1) (by omega) (by(repeat rw [aA (by omega)]);first | exact k0 | exact k1 | exact k2 | rw [ak]) (by(repeat rw [aA (by omega)]);first | exact k0 | exact k1 | exact k2 | rw [ak]);refine⟨K2,?_,u2,t1.trans u3⟩;simp -implicitDefEqProofs only [Nat.reduceLT,xq_,MB,aB (aP d),d1,ef,z1,d7,hn];exact u1
theorem yE {K:aj}{ls:Lcl}(L:Loc b K g ls)(hb:K.base<=b)(h:g q=some (bC ca))(C:COk ca)(d:bF)(node:Int)(hd:d.data.length < 1000000000){r r':Nat}(k0:ls r=some d.av)(k1:ls r'=some zD9):
  ∃K1 H',lda 9 (.ref r 0 0) K=some (.agg d.av,K)/\cl 187 [.agg d.av,I node,.ref q 0 0] K=some (.agg (bD d node ca).2.av,K1)/\st 9 (.ref r' 0 0) (.agg (bD d node ca).2.av) K1=some (aO,H')/\
   lda 9 (.ref r' 0 0) H'=some (.agg (bD d node ca).2.av,H')/\Good b H' (upd g q (bC (bD d node ca).1))/\Step b K H':=by
 obtain⟨K1,a1,a2,a3⟩:=agO L.good hb (L.obj h) C d node hd;have M:=L.call h a2;obtain⟨K2,u1,u2,u3,u4⟩:=M.whole (by rw [a3.base];exact hb) k1 (n:=9) (vs:=(bD d node ca).2.av) rfl rfl (by decide) (aP _);exact⟨K1,K2,L.lda k0 (i:=0) (n:=9) (ys:=d.av) rfl rfl (by decide),a1,u1,u2,u3.out,a3.trans u4⟩
theorem abN(G:Good b H g)(hb:H.base<=b)(h:g q=some (bC ca))(C:COk ca)(d:bF)(node:Int)(p:Pkt)(hd:d.data.length < 1000000000)(hp:p.data.length < 1000000000):
  ∃H',cl 152 [.agg d.av,I node,.ref q 0 0,.agg p.av] H=some (qI (bW d node ca p),H')/\Good b H' (upd g q (bC (bW d node ca p).1))/\Step b H H':=by
 refine jw rfl rfl (akC _ _ _ _ _ _) ?_;obtain⟨ls,L,k0,k1,k2,s⟩:=rY G d p;have d0:=L.ld k0 (i:=0) (v:=I d.kind) rfl;have d1:=L.ld k0 (i:=1) (v:=I d.line) rfl;have dA:=L.lda k0 (i:=0) (n:=9) (ys:=d.av) rfl rfl (by decide);have pA:=L.lda k1 (i:=0) (n:=9) (ys:=p.av) rfl rfl (by decide);have hf:=λH=> Qj H d p;have ez:bd 57 []=some (.agg zD9):=by simp -implicitDefEqProofs only [xq_,Ug,gV,bZ]
 have hbK:(((H.new (.blk 0 57 d.av)).new (.blk 0 70 p.av)).new (.blk 0 57 zD9)).base<=b:=by rw [s.base];exact hb
 obtain⟨Kz,z1,z2,z3,z4⟩:=L.whole hbK k2 (n:=9) (vs:=zD9) rfl rfl (by decide) rfl;have zu:Good b Kz (upd g q (bC ca)):=by rw [dO h];exact z3.out
 by_cases h1:d.kind≠2∨d.fits p=false
 ·have hm:bW d node ca p=(ca,.zero,false):=by simp only [bW];rw [if_pos h1];rfl
  rw [hm];refine⟨Kz,?_,zu,s.trans z4⟩;by_cases hk:d.kind=2
  ·have hff:d.fits p=false:=h1.resolve_left (λh=> h hk);rw [hk] at d0;simp -implicitDefEqProofs only [Nat.reduceLT,xq_,xZ,aB (aP d),aB (aJ p),d0,dA,pA,hf,hff,zae,zal,ez,z1,z2,qI,jV]
  ·simp -implicitDefEqProofs only [Nat.reduceLT,xq_,xZ,aB (aP d),aB (aJ p),d0,hk,zal,ez,z1,z2,qI,jV]
 ·have hk:d.kind=2:=Classical.byContradiction λh=> h1 (.inl h);have hff:d.fits p=true:=by cases hx:d.fits p <;> simp_all
  rw [hk] at d0;have ef:=oq L.good (L.obj h) C.len C.dat d.line;simp only [mg] at ef;have LE:=L.newL (ty:=93) (xs:=zE6) (r:=H.next+1+1+1) rfl (by rw [nNew,nNew,nNew]);have sE:Step b H _:=s.trans (Step.new (.blk 0 93 zE6) L.good.1);obtain⟨KE,x1,x2,M,x4⟩:=LE.whole (by rw [sE.base];exact hb) (r:=H.next+1+1+1) (xs:=zE6) (by(repeat rw [aA (by omega)]);first | exact k0 | exact k1 | exact k2 | rw [ak]) (n:=6) (vs:=((ca.find d.line).getD .zero).av) rfl rfl (by decide) (jK _);have t1:=sE.trans x4;have d3:=M.ld (r:=H.next) (xs:=d.av) (i:=3) (v:=I d.step) (by(repeat rw [aA (by omega)]);first | exact k0 | exact k1 | exact k2 | rw [ak]) rfl;have hbE:KE.base<=b:=by rw [t1.base];exact hb
  have e5:=M.ld (r:=H.next+1+1+1) (i:=5) (v:=dat ((ca.find d.line).getD .zero).data) (by(repeat rw [aA (by omega)]);first | exact k0 | exact k1 | exact k2 | rw [ak]) rfl;have hown:((ca.find d.line).getD .zero).data.length < 1000000000:=by
   cases hx:ca.find d.line with
   | none=> exact(by decide:([]:List Int).length < 1000000000)
   | some own=> exact C.dat own (za4 hx)
  have e2:=λH=> jf H p.data hp;by_cases s1:d.step=1
  ·rw [s1] at d3;have p6:=M.ld (r:=H.next+1) (xs:=p.av) (i:=6) (v:=I p.state) (by(repeat rw [aA (by omega)]);first | exact k0 | exact k1 | exact k2 | rw [ak]) rfl;have p5:=M.ld (r:=H.next+1) (xs:=p.av) (i:=5) (v:=I p.ptr) (by(repeat rw [aA (by omega)]);first | exact k0 | exact k1 | exact k2 | rw [ak]) rfl;have p8:=M.ld (r:=H.next+1) (xs:=p.av) (i:=8) (v:=dat p.data) (by(repeat rw [aA (by omega)]);first | exact k0 | exact k1 | exact k2 | rw [ak]) rfl;obtain⟨K2,u2,M2,w2⟩:=M.st hbE (r:=H.next) (xs:=d.av) (by(repeat rw [aA (by omega)]);first | exact k0 | exact k1 | exact k2 | rw [ak]) (i:=4) (v:=I p.state) (by simp [bF.av]) bJ;have t2:=t1.trans w2;obtain⟨K3,u3,M3,w3⟩:=M2.st (by rw [t2.base];exact hb) (r:=H.next) ak (i:=5) (v:=I p.ptr) (by simp [bF.av]) bJ;have t3:=t2.trans w3;obtain⟨K4,u4,M4,w4⟩:=M3.st (by rw [t3.base];exact hb) (r:=H.next) ak (i:=8) (v:=I p.ptr) (by simp [bF.av]) bJ;have t4:=t3.trans w4;obtain⟨K5,u5,M5,w5⟩:=M4.st (by rw [t4.base];exact hb) (r:=H.next) ak (i:=6) (v:=dat p.data) (by simp [bF.av]) pK;have t5:=t4.trans w5;have c1:∀{β:Type} (k:Option β),ck (aT (.ref (H.next+1) 0 5)) KE K2 k=k:=λk=> qH (lV u2 (by omega));have c2:∀{β:Type} (k:Option β),ck (aT (.ref (H.next+1) 0 5)) K2 K3 k=k:=λk=> qH (lV u3 (by omega));cases hx:ca.find d.line with
   | none=>
    have hm:bW d node ca p=((bD { d with state:=p.state,head:=p.ptr,told:=p.ptr,data:=p.data,next:=p.ptr } node ca).1,(bD { d with state:=p.state,head:=p.ptr,told:=p.ptr,data:=p.data,next:=p.ptr } node ca).2,true):=by
     simp only [bW,hx];rw [if_neg h1,if_pos s1]
    rw [hm];rw [hx] at ef x1;simp only [zaL] at ef;have n5:=M5.ld (r:=H.next) ak (i:=5) (v:=I p.ptr) rfl;obtain⟨K6,u6,M6,w6⟩:=M5.st (by rw [t5.base];exact hb) (r:=H.next) ak (i:=7) (v:=I p.ptr) (by simp [bF.av]) bJ;have t6:=t5.trans w6;obtain⟨K7,K8,v1,v2,v3,v4,v5,v6⟩:=yE M6 (by rw [t6.base];exact hb) h C { d with state:=p.state,head:=p.ptr,told:=p.ptr,data:=p.data,next:=p.ptr } node hp (r:=H.next) (r':=H.next+1+1) (by rw [ak];rfl) (by(repeat rw [aA (by omega)]);first | exact k0 | exact k1 | exact k2 | rw [ak]);refine⟨K8,?_,v5,t6.trans v6⟩;simp -implicitDefEqProofs only [Nat.reduceLT,Int.reduceEq,xq_,xZ,aB (aP d),aB (aJ p),d0,dA,pA,hf,hff,zae,d1,ef,x1,d3,p6,p5,p8,e2,u2,u3,u4,u5,c1,c2,BI,n5,u6,v1,v2,v3,v4,qI]
   | some own=>
    have hm:bW d node ca p=((bD { d with state:=p.state,head:=p.ptr,told:=p.ptr,data:=own.data,next:=p.ptr } node ca).1,(bD { d with state:=p.state,head:=p.ptr,told:=p.ptr,data:=own.data,next:=p.ptr } node ca).2,true):=by
     simp only [bW,hx];rw [if_neg h1,if_pos s1]
    rw [hm];rw [hx] at ef x1 e5;simp only [zaM,zay] at ef x1 e5;have e5':=M5.ld (r:=H.next+1+1+1) (i:=5) (v:=dat ((ca.find d.line).getD .zero).data) (by(repeat rw [aA (by omega)]);first | exact k0 | exact k1 | exact k2 | rw [ak]) rfl;rw [hx] at e5';simp only [zay] at e5';obtain⟨K5',u5',M5',w5'⟩:=M5.st (by rw [t5.base];exact hb) (r:=H.next) ak (i:=6) (v:=dat own.data) (by simp [bF.av]) pK;have t5':=t5.trans w5';have n5:=M5'.ld (r:=H.next) ak (i:=5) (v:=I p.ptr) rfl;obtain⟨K6,u6,M6,w6⟩:=M5'.st (by rw [t5'.base];exact hb) (r:=H.next) ak (i:=7) (v:=I p.ptr) (by simp [bF.av]) bJ;have t6:=t5'.trans w6;obtain⟨K7,K8,v1,v2,v3,v4,v5,v6⟩:=yE M6 (by rw [t6.base];exact hb) h C { d with state:=p.state,head:=p.ptr,told:=p.ptr,data:=own.data,next:=p.ptr } node (C.dat own (za4 hx)) (r:=H.next) (r':=H.next+1+1) (by rw [ak];rfl) (by(repeat rw [aA (by omega)]);first | exact k0 | exact k1 | exact k2 | rw [ak]);refine⟨K8,?_,v5,t6.trans v6⟩;simp -implicitDefEqProofs only [Nat.reduceLT,Int.reduceEq,xq_,xZ,aB (aP d),aB (aJ p),d0,dA,pA,hf,hff,zae,d1,ef,x1,d3,p6,p5,p8,e2,u2,u3,u4,u5,c1,c2,e5',u5',BI,n5,u6,v1,v2,v3,v4,qI]
  ·by_cases s3:d.step=3
   ·rw [s3] at d3;cases hx:ca.find d.line with
    | none=>
     have hm:bW d node ca p=((bD { d with data:=p.data,next:=p.ptr } node ca).1,(bD { d with data:=p.data,next:=p.ptr } node ca).2,true):=by
      simp only [bW,hx];rw [if_neg h1,if_neg s1,if_pos s3]
     rw [hm];rw [hx] at ef x1;simp only [zaL] at ef;have p8:=M.ld (r:=H.next+1) (xs:=p.av) (i:=8) (v:=dat p.data) (by(repeat rw [aA (by omega)]);first | exact k0 | exact k1 | exact k2 | rw [ak]) rfl;obtain⟨K5,u5,M5,w5⟩:=M.st hbE (r:=H.next) (xs:=d.av) (by(repeat rw [aA (by omega)]);first | exact k0 | exact k1 | exact k2 | rw [ak]) (i:=6) (v:=dat p.data) (by simp [bF.av]) pK;have t5:=t1.trans w5;have p5:=M5.ld (r:=H.next+1) (xs:=p.av) (i:=5) (v:=I p.ptr) (by(repeat rw [aA (by omega)]);first | exact k0 | exact k1 | exact k2 | rw [ak]) rfl;obtain⟨K6,u6,M6,w6⟩:=M5.st (by rw [t5.base];exact hb) (r:=H.next) ak (i:=7) (v:=I p.ptr) (by simp [bF.av]) bJ;have t6:=t5.trans w6;obtain⟨K7,K8,v1,v2,v3,v4,v5,v6⟩:=yE M6 (by rw [t6.base];exact hb) h C { d with data:=p.data,next:=p.ptr } node hp (r:=H.next) (r':=H.next+1+1) (by rw [ak];rfl) (by(repeat rw [aA (by omega)]);first | exact k0 | exact k1 | exact k2 | rw [ak]);refine⟨K8,?_,v5,t6.trans v6⟩;simp -implicitDefEqProofs only [Nat.reduceLT,Int.reduceEq,xq_,xZ,aB (aP d),aB (aJ p),d0,dA,pA,hf,hff,zae,zal,d1,ef,x1,d3,p5,p8,e2,u5,BJ,u6,v1,v2,v3,v4,qI]
    | some own=>
     have hm:bW d node ca p=((bD { d with data:=d.data,next:=p.ptr } node ca).1,(bD { d with data:=d.data,next:=p.ptr } node ca).2,true):=by
      simp only [bW,hx];rw [if_neg h1,if_neg s1,if_pos s3]
     rw [hm];rw [hx] at ef x1;simp only [zaM,zay] at ef x1;have p5:=M.ld (r:=H.next+1) (xs:=p.av) (i:=5) (v:=I p.ptr) (by(repeat rw [aA (by omega)]);first | exact k0 | exact k1 | exact k2 | rw [ak]) rfl;obtain⟨K6,u6,M6,w6⟩:=M.st hbE (r:=H.next) (xs:=d.av) (by(repeat rw [aA (by omega)]);first | exact k0 | exact k1 | exact k2 | rw [ak]) (i:=7) (v:=I p.ptr) (by simp [bF.av]) bJ;have t6:=t1.trans w6;obtain⟨K7,K8,v1,v2,v3,v4,v5,v6⟩:=yE M6 (by rw [t6.base];exact hb) h C { d with data:=d.data,next:=p.ptr } node hd (r:=H.next) (r':=H.next+1+1) (by rw [ak];rfl) (by(repeat rw [aA (by omega)]);first | exact k0 | exact k1 | exact k2 | rw [ak]);refine⟨K8,?_,v5,t6.trans v6⟩;simp -implicitDefEqProofs only [Nat.reduceLT,Int.reduceEq,xq_,xZ,aB (aP d),aB (aJ p),d0,dA,pA,hf,hff,zae,d1,ef,x1,d3,p5,BJ,u6,v1,v2,v3,v4,qI]
   ·by_cases s6:d.step=6
    ·have hm:bW d node ca p=(ca,{ d with step:=0 },true):=by simp only [bW];rw [if_neg h1,if_neg s1,if_neg s3,if_pos s6]
     rw [hm];obtain⟨K1,a1,M1,a3⟩:=M.st hbE (r:=H.next) (xs:=d.av) (by(repeat rw [aA (by omega)]);first | exact k0 | exact k1 | exact k2 | rw [ak]) (i:=3) (v:=I 0) (by simp [bF.av]) bJ;have dB:=M1.lda ak (i:=0) (n:=9) (ys:=({ d with step:=0 }:bF).av) rfl rfl (by decide);obtain⟨K2,u1,u2,u3,u4⟩:=M1.whole (by rw [a3.base];exact hbE) (r:=H.next+1+1) (xs:=zD9) (by(repeat rw [aA (by omega)]);first | exact k0 | exact k1 | exact k2 | rw [ak]) (n:=9) (vs:=({ d with step:=0 }:bF).av) rfl rfl (by decide) (aP _);refine⟨K2,?_,by rw [dO h];exact u3.out,(t1.trans a3).trans u4⟩;rw [s6] at d3;simp -implicitDefEqProofs only [Nat.reduceLT,Int.reduceEq,xq_,xZ,aB (aP d),aB (aJ p),d0,dA,pA,hf,hff,zae,d1,ef,x1,d3,a1,dB,u1,u2,qI]
    ·have hm:bW d node ca p=(ca,.zero,false):=by simp only [bW];rw [if_neg h1,if_neg s1,if_neg s3,if_neg s6];rfl
     rw [hm];obtain⟨K2,u1,u2,u3,u4⟩:=M.whole hbE (r:=H.next+1+1) (xs:=zD9) (by(repeat rw [aA (by omega)]);first | exact k0 | exact k1 | exact k2 | rw [ak]) (n:=9) (vs:=zD9) rfl rfl (by decide) rfl;refine⟨K2,?_,by rw [dO h];exact u3.out,t1.trans u4⟩;simp -implicitDefEqProofs only [Nat.reduceLT,xq_,xZ,aB (aP d),aB (aJ p),d0,dA,pA,hf,hff,zae,d1,ef,x1,d3,s1,s3,s6,ez,u1,u2,qI,jV]
end
section
variable {b:Nat}{H:aj}{g:Store}{q:Nat}{ca:Cache}
theorem Loc.ext {K K':aj}{ls:Lcl}(L:Loc b K g ls)(M:Made K K' nil0):Loc b K' g ls:=⟨L.good.ext M.next M.same,L.free⟩
theorem amf(G:Good b H g)(hb:H.base<=b)(h:g q=some (bC ca))(C:COk ca)(d:bF)(head:Int):
  ∃H',cl 189 [.agg d.av,.ref q 0 0,I head] H=some (.agg (fU d ca head).2.1.av,H')/\Good b H' (upd g q (bC (fU d ca head).1))/\Step b H H':=by
 refine jw rfl rfl (ale _ _ _ _ _) ?_;have L1:=(Loc.of G).newL (ty:=57) (xs:=d.av) (r:=H.next) (aP d) rfl;have L2:=L1.newL (ty:=57) (xs:=zD9) (r:=H.next+1) rfl (by rw [nNew]);have s2:Step b H _:=(Step.new (.blk 0 57 d.av) G.1).trans (Step.new (.blk 0 57 zD9) L1.good.1);have d1:=L2.ld (r:=H.next) (i:=1) (v:=I d.line) (by(repeat rw [aA (by omega)]);rw [ak]) rfl;obtain⟨K1,a1,a2,a3⟩:=EC L2.good (by rw [s2.base];exact hb) (L2.obj h) C.len C.dat d.line;have M1:=L2.call h a2;have t1:=s2.trans a3;obtain⟨K2,u2,M2,w2⟩:=M1.st (by rw [t1.base];exact hb) (r:=H.next) (xs:=d.av) (by(repeat rw [aA (by omega)]);rw [ak]) (i:=3) (v:=I 6) (by simp [bF.av]) bJ;have t2:=t1.trans w2;obtain⟨K3,u3,M3,w3⟩:=M2.st (by rw [t2.base];exact hb) (r:=H.next) ak (i:=4) (v:=I 1) (by simp [bF.av]) bJ;have t3:=t2.trans w3;obtain⟨K4,u4,M4,w4⟩:=M3.st (by rw [t3.base];exact hb) (r:=H.next) ak (i:=5) (v:=I head) (by simp [bF.av]) bJ;have t4:=t3.trans w4;obtain⟨K5,u5,M5,w5⟩:=M4.st (by rw [t4.base];exact hb) (r:=H.next) ak (i:=6) (v:=zN) (by simp [bF.av]) mJ;have t5:=t4.trans w5;have f1:=M5.lda (r:=H.next) ak (i:=0) (n:=9) (ys:=(fU d ca head).2.1.av) (by simp only [fU,bF.av,Au];rfl) rfl (by decide);obtain⟨K7,u7,v7,M7,w7⟩:=M5.whole (by rw [t5.base];exact hb) (r:=H.next+1) (xs:=zD9) (by(repeat rw [aA (by omega)]);rw [ak]) (n:=9) (vs:=(fU d ca head).2.1.av) rfl rfl (by decide) (aP _);refine⟨K7,?_,M7.out,t5.trans w7⟩;simp -implicitDefEqProofs only [Nat.reduceLT,xq_,aem,aB (aP d),d1,a1,u2,u3,u4,u5,f1,u7,v7]
abbrev lnk(f bk:Int):List AV:=[I f,I bk]
theorem Za(H:aj)(f bk:Int):∃H',cl 206 [.agg (lnk f bk)] H=some (B (decide (bk=-1)),H')/\(H.base<=H.next->Made H H' nil0):=by
 refine⟨H.new (.blk 0 91 (lnk f bk)),aN rfl rfl (alv _ _ _ ?_),λhb=> (Made.refl hb).new _⟩;simp -implicitDefEqProofs only [Nat.reduceLT,Int.reduceNeg,xq_,hq_,aew,aB]
theorem agP(H:aj)(f bk:Int):∃H',cl 212 [.agg (lnk f bk)] H=some (B (decide (f=-1)),H')/\(H.base<=H.next->Made H H' nil0):=by
 refine⟨H.new (.blk 0 91 (lnk f bk)),aN rfl rfl (alC _ _ _ ?_),λhb=> (Made.refl hb).new _⟩;simp -implicitDefEqProofs only [Nat.reduceLT,Int.reduceNeg,xq_,hq_,aey,aB]
theorem agQ(H:aj)(hb0:H.base<=H.next)(f bk:Int):∃H',cl 205 [.agg (lnk f bk)] H=some (B (decide (bk=-1/\f=-1)),H')/\Made H H' nil0:=by
 let H1:=H.new (.blk 0 91 (lnk f bk));have g1:H1.get H.next=.blk 0 91 (lnk f bk):=aK rfl
 have l1:lda 2 (.ref H.next 0 0) H1=some (.agg (lnk f bk),H1):=(fQ (off:=0) (n:=2) g1 (zac 2)).trans rfl;obtain⟨H2,e1,M1⟩:=Za H1 f bk;by_cases h:bk=-1
 ·have hd:decide (bk=-1)=true:=decide_eq_true h;rw [hd] at e1;have hb:H1.base<=H1.next:=by simp only [H1,bNew,nNew];omega
  have M:=M1 hb;have l2:lda 2 (.ref H.next 0 0) H2=some (.agg (lnk f bk),H2):=(fQ (g:=0) (ty:=91) (off:=0) (n:=2) (xs:=lnk f bk) (by rw [M.same _ (by simp only [H1,nNew];omega)];exact g1) (zac 2)).trans rfl;obtain⟨H3,e2,M2⟩:=agP H2 f bk;have M3:=M2 (by rw [M.base];exact zaz hb M.next);have M4:Made H1 H3 nil0:=⟨zaz M.next M3.next,M3.base.trans M.base,λr hr=> by rw [M3.same r (zaw hr M.next),M.same r hr],Good.empty' (zaz M.next M3.next)⟩
  refine⟨H3,aN rfl rfl (aev _ _ _ ?_),M4.vW⟩;simp only [H1] at l1 e1;have hda:decide (bk=-1/\f=-1)=decide (f=-1):=by simp [h]
  rw [hda];simp -implicitDefEqProofs only [Nat.reduceLT,Int.reduceNeg,xq_,X9,aB (show(lnk f bk).all AV.aH=true from rfl),l1,e1,l2,e2]
 ·have hd:decide (bk=-1)=false:=decide_eq_false h;rw [hd] at e1;have hda:decide (bk=-1/\f=-1)=false:=by simp [h]
  refine⟨H2,aN rfl rfl (aev _ _ _ ?_),(M1 (by simp only [H1,bNew,nNew];omega)).vW⟩;simp only [H1] at l1 e1;rw [hda];simp -implicitDefEqProofs only [Nat.reduceLT,xq_,X9,aB (show(lnk f bk).all AV.aH=true from rfl),l1,e1]
end
section
variable {b:Nat}{H:aj}{g:Store}{q:Nat}{ca:Cache}
def jM(d:bF)(c:Cache)(p:Pkt):Cache × bF:=
 let d:bF:={ d with state:=p.state,head:=p.ptr,told:=p.ptr,data:=[],step:=6 }
 match c.find d.line with
 | none=> (c,d)
 | some e=>
  if e.back=-1/\e.fwd=-1 then(c.drop d.line,{ d with state:=0,head:=-1,data:=if e.dirty then e.data else [] })
  else if e.back=-1 then(c,{ d with head:=-1,next:=e.fwd,step:=5 })
  else(c,{ d with head:=e.back,next:=e.fwd,step:=4 })
theorem UU(G:Good b H g)(hb:H.base<=b)(h:g q=some (bC ca))(C:COk ca)(d:bF)(p:Pkt):
  ∃H',cl 188 [.agg d.av,.ref q 0 0,.agg p.av] H=some (.agg (jM d ca p).2.av,H')/\Good b H' (upd g q (bC (jM d ca p).1))/\Step b H H':=by
 refine jw rfl rfl (ald _ _ _ _ _) ?_;obtain⟨ls,L,k0,k1,k2,s⟩:=rY G d p;have hbK:(((H.new (.blk 0 57 d.av)).new (.blk 0 70 p.av)).new (.blk 0 57 zD9)).base<=b:=by rw [s.base];exact hb
 have p6:=L.ld k1 (i:=6) (v:=I p.state) rfl;have p5:=L.ld k1 (i:=5) (v:=I p.ptr) rfl;obtain⟨K2,u2,M2,w2⟩:=L.st hbK (r:=H.next) k0 (i:=4) (v:=I p.state) (by simp [bF.av]) bJ;have t2:=s.trans w2;obtain⟨K3,u3,M3,w3⟩:=M2.st (by rw [t2.base];exact hb) (r:=H.next) ak (i:=5) (v:=I p.ptr) (by simp [bF.av]) bJ;have t3:=t2.trans w3;obtain⟨K4,u4,M4,w4⟩:=M3.st (by rw [t3.base];exact hb) (r:=H.next) ak (i:=8) (v:=I p.ptr) (by simp [bF.av]) bJ;have t4:=t3.trans w4;obtain⟨K5,u5,M5,w5⟩:=M4.st (by rw [t4.base];exact hb) (r:=H.next) ak (i:=6) (v:=zN) (by simp [bF.av]) mJ;have t5:=t4.trans w5;have c1:∀{β:Type} (k:Option β),ck (aT (.ref (H.next+1) 0 5)) (((H.new (.blk 0 57 d.av)).new (.blk 0 70 p.av)).new (.blk 0 57 zD9)) K2 k=k:=λk=> qH (lV u2 (by omega));have c2:∀{β:Type} (k:Option β),ck (aT (.ref (H.next+1) 0 5)) K2 K3 k=k:=λk=> qH (lV u3 (by omega));obtain⟨K6,u6,M6,w6⟩:=M5.st (by rw [t5.base];exact hb) (r:=H.next) ak (i:=3) (v:=I 6) (by simp [bF.av]) bJ;have t6:=t5.trans w6;let d2:bF:={ d with state:=p.state,head:=p.ptr,told:=p.ptr,data:=[],step:=6 }
 have e2:(((((d.av.set 4 (I p.state)).set 5 (I p.ptr)).set 8 (I p.ptr)).set 6 zN).set 3 (I 6))=d2.av:=by simp only [d2,bF.av,Au];rfl
 rw [e2] at M6;have k0':∀(l:Lcl) (x:List AV),fO l H.next x H.next=some x:=λ_ _=> ak
 have d1:=M6.ld (r:=H.next) ak (i:=1) (v:=I d.line) rfl;have ef:=oq M6.good (M6.obj h) C.len C.dat d.line;simp only [mg] at ef;have LE:=M6.newL (ty:=93) (xs:=zE6) (r:=K6.next) rfl rfl;have z2:fO (fO (fO (fO (fO ls H.next (d.av.set 4 (I p.state))) H.next ((d.av.set 4 (I p.state)).set 5 (I p.ptr))) H.next (((d.av.set 4 (I p.state)).set 5 (I p.ptr)).set 8 (I p.ptr))) H.next ((((d.av.set 4 (I p.state)).set 5 (I p.ptr)).set 8 (I p.ptr)).set 6 zN)) H.next d2.av (H.next+1+1)=some zD9:=by
  rw [aA (by omega),aA (by omega),aA (by omega),aA (by omega),aA (by omega)];exact k2
 have n6:H.next+1+1 < K6.next:=M6.good.lt (mY (g:=g) z2)
 obtain⟨KE,x1,x2,ME,x4⟩:=LE.whole (by rw [bNew,t6.base];exact hb) (r:=K6.next) ak (n:=6) (vs:=((ca.find d.line).getD .zero).av) rfl rfl (by decide) (jK _);have tE:=(t6.trans (Step.new (.blk 0 93 zE6) M6.good.1)).trans x4;have hbE:KE.base<=b:=by rw [tE.base];exact hb
 generalize hls:fO (fO (fO (fO (fO (fO (fO ls H.next (d.av.set 4 (I p.state))) H.next ((d.av.set 4 (I p.state)).set 5 (I p.ptr))) H.next (((d.av.set 4 (I p.state)).set 5 (I p.ptr)).set 8 (I p.ptr))) H.next ((((d.av.set 4 (I p.state)).set 5 (I p.ptr)).set 8 (I p.ptr)).set 6 zN)) H.next d2.av) K6.next zE6) K6.next ((ca.find d.line).getD .zero).av=lz at ME
 have y0:lz H.next=some d2.av:=by rw [<-hls,aA (by omega),aA (by omega),ak]
 have y2:lz (H.next+1+1)=some zD9:=by rw [<-hls,aA (by omega),aA (by omega)];exact z2
 have y3:lz K6.next=some ((ca.find d.line).getD .zero).av:=by rw [<-hls,ak]
 have fin:∀{Kx:aj} {lx:Lcl} {gx:Store} (dx:bF),Loc b Kx gx lx->Kx.base<=b->lx H.next=some dx.av->lx (H.next+1+1)=some zD9->∃H',lda 9 (.ref H.next 0 0) Kx=some (.agg dx.av,Kx)/\st 9 (.ref (H.next+1+1) 0 0) (.agg dx.av) Kx=some (aO,H')/\lda 9 (.ref (H.next+1+1) 0 0) H'=some (.agg dx.av,H')/\Good b H' gx/\Step b Kx H':=λdx Lx hbx q0 q2=> by
  obtain⟨K',v1,v2,v3,v4⟩:=Lx.whole hbx q2 (n:=9) (vs:=dx.av) rfl rfl (by decide) (aP _);exact⟨K',Lx.lda q0 (i:=0) (n:=9) (ys:=dx.av) rfl rfl (by decide),v1,v2,v3.out,v4⟩
 cases hfd:ca.find d.line with
 | none=>
  have hm:jM d ca p=(ca,d2):=by simp only [jM,hfd,d2]
  rw [hm];rw [hfd] at ef x1;simp only [zaL] at ef;obtain⟨H',f1,f2,f3,f4,f5⟩:=fin d2 ME hbE y0 y2;refine⟨H',?_,by rw [dO h];exact f4,tE.trans f5⟩;simp -implicitDefEqProofs only [Nat.reduceLT,Int.reduceNeg,xq_,Gq,aB (aP d),aB (aJ p),p6,p5,u2,u3,u4,u5,c1,c2,u6,d1,ef,x1,zal,f1,f2,f3]
 | some e=>
  rw [hfd] at ef x1 y3;simp only [zaM,zay] at ef x1 y3;have l2:=ME.lda y3 (i:=0) (n:=2) (ys:=lnk e.fwd e.back) rfl rfl (by decide);obtain⟨KO,o1,o2⟩:=agQ KE (zaz hbE ME.good.1) e.fwd e.back;have MO:=ME.ext o2;have hbO:KO.base<=b:=by rw [o2.base];exact hbE
  have tO:Step b H KO:=tE.trans ⟨o2.base,o2.next,λr hr=> o2.same r (zaw hr ME.good.1)⟩;by_cases h1:e.back=-1/\e.fwd=-1
  ·have dl:=MO.ld y0 (i:=1) (v:=I d.line) rfl;obtain⟨K7,a1,a2,a3⟩:=EC MO.good hbO (MO.obj h) C.len C.dat d.line;have M7:=MO.call h a2;have t7:=tO.trans a3;obtain⟨K8,u8,M8,w8⟩:=M7.st (by rw [t7.base];exact hb) y0 (i:=4) (v:=I 0) (by simp [bF.av]) bJ;have t8:=t7.trans w8;obtain⟨K9,u9,M9,w9⟩:=M8.st (by rw [t8.base];exact hb) (r:=H.next) ak (i:=5) (v:=I (-1)) (by simp [bF.av]) bJ;have t9:=t8.trans w9;have y3':fO (fO lz H.next (d2.av.set 4 (I 0))) H.next ((d2.av.set 4 (I 0)).set 5 (I (-1))) K6.next=some e.av:=by rw [aA (by omega),aA (by omega)];exact y3
   have y2':fO (fO lz H.next (d2.av.set 4 (I 0))) H.next ((d2.av.set 4 (I 0)).set 5 (I (-1))) (H.next+1+1)=some zD9:=by rw [aA (by omega),aA (by omega)];exact y2
   have ed:=M9.ld y3' (i:=4) (v:=B e.dirty) rfl;rw [decide_eq_true h1] at o1;cases hdy:e.dirty with
   | false=>
    have hm:jM d ca p=(ca.drop d.line,{ d2 with state:=0,head:=-1,data:=[] }):=by
     simp only [jM,hfd,d2];rw [if_pos h1,hdy];rfl
    rw [hm];rw [hdy] at ed;obtain⟨H',f1,f2,f3,f4,f5⟩:=fin { d2 with state:=0,head:=-1,data:=[] } M9 (by rw [t9.base];exact hb) (by rw [ak];rfl) y2';refine⟨H',?_,f4,t9.trans f5⟩;simp -implicitDefEqProofs only [Nat.reduceLT,Int.reduceNeg,xq_,Gq,oW,aB (aP d),aB (aJ p),p6,p5,u2,u3,u4,u5,c1,c2,u6,d1,ef,x1,zae,l2,o1,dl,a1,u8,u9,ed,f1,f2,f3]
   | true=>
    have hm:jM d ca p=(ca.drop d.line,{ d2 with state:=0,head:=-1,data:=e.data }):=by
     simp only [jM,hfd,d2];rw [if_pos h1,hdy];rfl
    rw [hm];rw [hdy] at ed;have ex:=M9.ld y3' (i:=5) (v:=dat e.data) rfl;obtain⟨K10,u10,M10,w10⟩:=M9.st (by rw [t9.base];exact hb) (r:=H.next) ak (i:=6) (v:=dat e.data) (by simp [bF.av]) pK;have t10:=t9.trans w10;obtain⟨H',f1,f2,f3,f4,f5⟩:=fin { d2 with state:=0,head:=-1,data:=e.data } M10 (by rw [t10.base];exact hb) (by rw [ak];rfl) (by rw [aA (by omega)];exact y2');refine⟨H',?_,f4,t10.trans f5⟩;simp -implicitDefEqProofs only [Nat.reduceLT,Int.reduceNeg,xq_,Gq,oW,aB (aP d),aB (aJ p),p6,p5,u2,u3,u4,u5,c1,c2,u6,d1,ef,x1,zae,l2,o1,dl,a1,u8,u9,ed,ex,u10,f1,f2,f3]
  ·have l2':=MO.lda y3 (i:=0) (n:=2) (ys:=lnk e.fwd e.back) rfl rfl (by decide);obtain⟨KH,q1,q2'⟩:=Za KO e.fwd e.back;have q2:=q2' (zaz hbO MO.good.1);have MH:=MO.ext q2;have hbH:KH.base<=b:=by rw [q2.base];exact hbO
   have tH:Step b H KH:=tO.trans ⟨q2.base,q2.next,λr hr=> q2.same r (zaw hr MO.good.1)⟩;rw [decide_eq_false h1] at o1;have g0:=MH.ld y3 (i:=0) (v:=I e.fwd) rfl;have g1:=MH.ld y3 (i:=1) (v:=I e.back) rfl;by_cases h2:e.back=-1
   ·have hm:jM d ca p=(ca,{ d2 with head:=-1,next:=e.fwd,step:=5 }):=by
     simp only [jM,hfd,d2];rw [if_neg h1,if_pos h2]
    rw [hm];rw [decide_eq_true h2] at q1;obtain⟨K8,u8,M8,w8⟩:=MH.st hbH y0 (i:=5) (v:=I (-1)) (by simp [bF.av]) bJ;have t8:=tH.trans w8;obtain⟨K9,u9,M9,w9⟩:=M8.st (by rw [t8.base];exact hb) (r:=H.next) ak (i:=7) (v:=I e.fwd) (by simp [bF.av]) bJ;have t9:=t8.trans w9;obtain⟨K10,u10,M10,w10⟩:=M9.st (by rw [t9.base];exact hb) (r:=H.next) ak (i:=3) (v:=I 5) (by simp [bF.av]) bJ;have t10:=t9.trans w10;have c3:∀{β:Type} (k:Option β),ck (aT (.ref K6.next 0 0)) KH K8 k=k:=λk=> qH (lV u8 (by omega));obtain⟨H',f1,f2,f3,f4,f5⟩:=fin { d2 with head:=-1,next:=e.fwd,step:=5 } M10 (by rw [t10.base];exact hb) (by rw [ak];rfl) (by rw [aA (by omega),aA (by omega),aA (by omega)];exact y2);refine⟨H',?_,by rw [dO h];exact f4,t10.trans f5⟩;simp -implicitDefEqProofs only [Nat.reduceLT,Int.reduceNeg,xq_,Gq,oW,aB (aP d),aB (aJ p),p6,p5,u2,u3,u4,u5,c1,c2,u6,d1,ef,x1,zae,l2,o1,l2',q1,g0,u8,u9,u10,c3,f1,f2,f3]
   ·have hm:jM d ca p=(ca,{ d2 with head:=e.back,next:=e.fwd,step:=4 }):=by
     simp only [jM,hfd,d2];rw [if_neg h1,if_neg h2]
    rw [hm];rw [decide_eq_false h2] at q1;obtain⟨K8,u8,M8,w8⟩:=MH.st hbH y0 (i:=5) (v:=I e.back) (by simp [bF.av]) bJ;have t8:=tH.trans w8;obtain⟨K9,u9,M9,w9⟩:=M8.st (by rw [t8.base];exact hb) (r:=H.next) ak (i:=7) (v:=I e.fwd) (by simp [bF.av]) bJ;have t9:=t8.trans w9;obtain⟨K10,u10,M10,w10⟩:=M9.st (by rw [t9.base];exact hb) (r:=H.next) ak (i:=3) (v:=I 4) (by simp [bF.av]) bJ;have t10:=t9.trans w10;have c3:∀{β:Type} (k:Option β),ck (aT (.ref K6.next 0 0)) KH K8 k=k:=λk=> qH (lV u8 (by omega));obtain⟨H',f1,f2,f3,f4,f5⟩:=fin { d2 with head:=e.back,next:=e.fwd,step:=4 } M10 (by rw [t10.base];exact hb) (by rw [ak];rfl) (by rw [aA (by omega),aA (by omega),aA (by omega)];exact y2);refine⟨H',?_,by rw [dO h];exact f4,t10.trans f5⟩;simp -implicitDefEqProofs only [Nat.reduceLT,Int.reduceNeg,xq_,Gq,oW,aB (aP d),aB (aJ p),p6,p5,u2,u3,u4,u5,c1,c2,u6,d1,ef,x1,zae,l2,o1,l2',q1,g0,g1,u8,u9,u10,c3,f1,f2,f3]
end
section
variable {b:Nat}{H:aj}{g:Store}{q:Nat}{ca:Cache}
theorem agR(G:Good b H g)(hb:H.base<=b)(h:g q=some (bC ca))(C:COk ca)(d:bF)(p:Pkt)(nd:Int):
  ∃H',cl 153 [.agg d.av,I nd,.ref q 0 0,.agg p.av] H=some (qI (dn d ca p),H')/\Good b H' (upd g q (bC (dn d ca p).1))/\Step b H H':=by
 refine jw rfl rfl (akD _ _ _ _ _ _) ?_;obtain⟨ls,L,k0,k1,k2,s⟩:=rY G d p;have d0:=L.ld k0 (i:=0) (v:=I d.kind) rfl;have d3:=L.ld k0 (i:=3) (v:=I d.step) rfl;have dA:=L.lda k0 (i:=0) (n:=9) (ys:=d.av) rfl rfl (by decide);have pA:=L.lda k1 (i:=0) (n:=9) (ys:=p.av) rfl rfl (by decide);have hf:=λH=> Qj H d p;have ez:bd 57 []=some (.agg zD9):=by simp -implicitDefEqProofs only [xq_,Ug,gV,bZ]
 have hbK:(((H.new (.blk 0 57 d.av)).new (.blk 0 70 p.av)).new (.blk 0 57 zD9)).base<=b:=by rw [s.base];exact hb
 obtain⟨Kz,z1,z2,z3,z4⟩:=L.whole hbK k2 (n:=9) (vs:=zD9) rfl rfl (by decide) rfl;have zu:Good b Kz (upd g q (bC ca)):=by rw [dO h];exact z3.out
 have outs:∀head,∃K1 K2,cl 189 [.agg d.av,.ref q 0 0,I head] (((H.new (.blk 0 57 d.av)).new (.blk 0 70 p.av)).new (.blk 0 57 zD9))=some (.agg (fU d ca head).2.1.av,K1)/\
   st 9 (.ref (H.next+1+1) 0 0) (.agg (fU d ca head).2.1.av) K1=some (aO,K2)/\lda 9 (.ref (H.next+1+1) 0 0) K2=some (.agg (fU d ca head).2.1.av,K2)/\Good b K2 (upd g q (bC (fU d ca head).1))/\Step b H K2:=λhead=> by
  obtain⟨K1,a1,a2,a3⟩:=amf L.good hbK (L.obj h) C d head;have M:=L.call h a2;obtain⟨K2,u1,u2,u3,u4⟩:=M.whole (by rw [a3.base];exact hbK) k2 (n:=9) (vs:=(fU d ca head).2.1.av) rfl rfl (by decide) (aP _);exact⟨K1,K2,a1,u1,u2,u3.out,(s.trans a3).trans u4⟩
 have steps:∀k:Int,∃K1 K2,st 1 (.ref H.next 0 3) (I k) (((H.new (.blk 0 57 d.av)).new (.blk 0 70 p.av)).new (.blk 0 57 zD9))=some (aO,K1)/\lda 9 (.ref H.next 0 0) K1=some (.agg ({ d with step:=k }:bF).av,K1)/\
   st 9 (.ref (H.next+1+1) 0 0) (.agg ({ d with step:=k }:bF).av) K1=some (aO,K2)/\lda 9 (.ref (H.next+1+1) 0 0) K2=some (.agg ({ d with step:=k }:bF).av,K2)/\Good b K2 (upd g q (bC ca))/\Step b H K2:=λk=> by
  obtain⟨K1,a1,M,a3⟩:=L.st hbK k0 (i:=3) (v:=I k) (by simp [bF.av]) bJ;have k2':fO ls H.next (d.av.set 3 (I k)) (H.next+1+1)=some zD9:=by rw [aA (by omega)];exact k2
  have dB:=M.lda ak (i:=0) (n:=9) (ys:=({ d with step:=k }:bF).av) rfl rfl (by decide);obtain⟨K2,u1,u2,u3,u4⟩:=M.whole (by rw [a3.base];exact hbK) k2' (n:=9) (vs:=({ d with step:=k }:bF).av) rfl rfl (by decide) (aP _);exact⟨K1,K2,a1,dB,u1,u2,by rw [dO h];exact u3.out,(s.trans a3).trans u4⟩
 have d7:=L.ld k0 (i:=7) (v:=I d.next) rfl;have d5:=L.ld k0 (i:=5) (v:=I d.head) rfl;have d8:=L.ld k0 (i:=8) (v:=I d.told) rfl;by_cases h1:d.kind≠3∨d.fits p=false
 ·have hm:dn d ca p=(ca,.zero,false):=by simp only [dn];rw [if_pos h1];rfl
  rw [hm];refine⟨Kz,?_,zu,s.trans z4⟩;by_cases hk:d.kind=3
  ·have hff:d.fits p=false:=h1.resolve_left (λh=> h hk);rw [hk] at d0;simp -implicitDefEqProofs only [Nat.reduceLT,Int.reduceNeg,xq_,vU,aB (aP d),aB (aJ p),d0,dA,pA,hf,hff,zae,zal,ez,z1,z2,qI,jV]
  ·simp -implicitDefEqProofs only [Nat.reduceLT,Int.reduceNeg,xq_,vU,aB (aP d),aB (aJ p),d0,hk,zal,ez,z1,z2,qI,jV]
 ·have hk:d.kind=3:=Classical.byContradiction λh=> h1 (.inl h);have hff:d.fits p=true:=by cases hx:d.fits p <;> simp_all
  rw [hk] at d0;by_cases s1:d.step=1
  ·have hm:dn d ca p=((jM d ca p).1,(jM d ca p).2,true):=by
    simp only [dn,jM];rw [if_neg h1,if_pos s1];cases ca.find d.line with
    | none=> rfl
    | some e=>
     simp only;split
     ·rfl
     ·split <;> rfl
   rw [hm];rw [s1] at d3;obtain⟨K1,a1,a2,a3⟩:=UU L.good hbK (L.obj h) C d p;have M:=L.call h a2;obtain⟨K2,u1,u2,u3,u4⟩:=M.whole (by rw [a3.base];exact hbK) k2 (n:=9) (vs:=(jM d ca p).2.av) rfl rfl (by decide) (aP _);refine⟨K2,?_,u3.out,(s.trans a3).trans u4⟩;simp -implicitDefEqProofs only [Nat.reduceLT,Int.reduceEq,Int.reduceNeg,xq_,vU,aB (aP d),aB (aJ p),d0,dA,pA,hf,hff,zae,d3,a1,u1,u2,qI]
  ·by_cases s4:d.step=4
   ·rw [s4] at d3;by_cases hn:d.next=-1
    ·have hm:dn d ca p=fU d ca d.told:=by simp only [dn];rw [if_neg h1,if_neg s1,if_pos s4,if_pos hn]
     rw [hm];obtain⟨K1,K2,a1,u1,u2,u3,u4⟩:=outs d.told;refine⟨K2,?_,u3,u4⟩;have ht:(fU d ca d.told).2.2=true:=rfl;rw [hn] at d7;simp -implicitDefEqProofs only [Nat.reduceLT,Int.reduceEq,Int.reduceNeg,xq_,vU,aB (aP d),aB (aJ p),d0,dA,pA,hf,hff,zae,d3,d7,d8,a1,u1,u2,qI,ht]
    ·have hm:dn d ca p=(ca,{ d with step:=5 },true):=by simp only [dn];rw [if_neg h1,if_neg s1,if_pos s4,if_neg hn]
     rw [hm];obtain⟨K1,K2,a1,dB,u1,u2,u3,u4⟩:=steps 5;refine⟨K2,?_,u3,u4⟩;simp -implicitDefEqProofs only [Nat.reduceLT,Int.reduceEq,Int.reduceNeg,xq_,vU,aB (aP d),aB (aJ p),d0,dA,pA,hf,hff,zae,d3,d7,hn,a1,dB,u1,u2,qI]
   ·by_cases s5:d.step=5
    ·rw [s5] at d3;by_cases hn:d.head=-1
     ·have hm:dn d ca p=fU d ca d.next:=by simp only [dn];rw [if_neg h1,if_neg s1,if_neg s4,if_pos s5,if_pos hn]
      rw [hm];obtain⟨K1,K2,a1,u1,u2,u3,u4⟩:=outs d.next
      refine⟨K2,?_,u3,u4⟩;have ht:(fU d ca d.next).2.2=true:=rfl;rw [hn] at d5;simp -implicitDefEqProofs only [Nat.reduceLT,Int.reduceEq,Int.reduceNeg,xq_,vU,aB (aP d),aB (aJ p),d0,dA,pA,hf,hff,zae,d3,d5,d7,a1,u1,u2,qI,ht]
     ·have hm:dn d ca p=fU d ca d.told:=by simp only [dn];rw [if_neg h1,if_neg s1,if_neg s4,if_pos s5,if_neg hn]
      rw [hm];obtain⟨K1,K2,a1,u1,u2,u3,u4⟩:=outs d.told;refine⟨K2,?_,u3,u4⟩;have ht:(fU d ca d.told).2.2=true:=rfl;simp -implicitDefEqProofs only [Nat.reduceLT,Int.reduceEq,Int.reduceNeg,xq_,vU,aB (aP d),aB (aJ p),d0,dA,pA,hf,hff,zae,d3,d5,hn,d8,a1,u1,u2,qI,ht]
    ·by_cases s6:d.step=6
     ·have hm:dn d ca p=(ca,{ d with step:=0 },true):=by simp only [dn];rw [if_neg h1,if_neg s1,if_neg s4,if_neg s5,if_pos s6]
      rw [hm];obtain⟨K1,K2,a1,dB,u1,u2,u3,u4⟩:=steps 0;refine⟨K2,?_,u3,u4⟩;rw [s6] at d3;simp -implicitDefEqProofs only [Nat.reduceLT,Int.reduceEq,Int.reduceNeg,xq_,vU,aB (aP d),aB (aJ p),d0,dA,pA,hf,hff,zae,d3,a1,dB,u1,u2,qI]
     ·have hm:dn d ca p=(ca,.zero,false):=by simp only [dn];rw [if_neg h1,if_neg s1,if_neg s4,if_neg s5,if_neg s6];rfl
      rw [hm];refine⟨Kz,?_,zu,s.trans z4⟩;simp -implicitDefEqProofs only [Nat.reduceLT,Int.reduceNeg,xq_,vU,aB (aP d),aB (aJ p),d0,dA,pA,hf,hff,zae,d3,s1,s4,s5,s6,ez,z1,z2,qI,jV]
end
section
variable {b:Nat}{H:aj}{g:Store}{q:Nat}
theorem NJ(G:Good b H g)(hb:H.base<=b){l:List Evn}(h:g q=some (kJ l))(hl:l.length < 1000000)(e:Evn):
  ∃x x' H1 H2,ld (.ref q 0 0) H=some (x,H)/\app 51 4 32 x (.sl H.next 0 0 4 1 1 true) (H.new (.blk 0 51 e.av))=some (x',H1)/\st 1 (.ref q 0 0) x' H1=some (aO,H2)/\Good b H2 (upd g q (kJ (l++[e])))/\Step b H H2:=by
 obtain⟨x,hx,c⟩:=G.seq h (i:=0) rfl;obtain⟨x',H1,H2,a1,a2,a3,a4⟩:=(G.new (.blk 0 51 e.av)).append (e:=51) (by_:=32) (n:=l.length) (by rw [bNew];exact hb) h (i:=0) rfl (by decide) (bf lq l) (c.new _) (jv (ex:=true) (n:=1) (m:=4) (l:=e.av) rfl) (yS e) (by unfold most;omega) (by unfold most;omega);refine⟨x,x',H1,H2,hx,a1,a2,?_,(Step.new _ G.1).trans a4⟩;have:kJ (l++[e])=(kJ l).set 0 (.seq 4 (l.flatMap Evn.av++e.av)):=by simp [kJ]
 rw [this];exact a3
theorem UW(G:Good b H g)(hb:H.base<=b){l:List Evn}(h:g q=some (kJ l))(hl:l.length < 1000000)(node idx:Int):
  ∃H',cl 113 [.ref q 0 0,I node,I idx] H=some (.tup [],H')/\Good b H' (upd g q (kJ (l++[⟨node,idx,false,0⟩])))/\Step b H H':=by
 obtain⟨x,x',H1,H2,a0,a1,a2,a3,a4⟩:=NJ G hb h hl ⟨node,idx,false,0⟩;refine⟨H2,aN rfl rfl (aj7 _ _ _ _ _ ?_),a3,a4⟩;have ed:bd 51 [(0,I node),(1,I idx)]=some (.agg (Evn.mk node idx false 0).av):=by
  simp -implicitDefEqProofs only [xq_,ahK,gV,dM,afi,Evn.av];rfl
 simp -implicitDefEqProofs only [xq_,adz,a0,ed,aax,zbd,Nat.reduceLeDiff,jm (m:=4) (z:=[zI,zI,zB,zI]) (v:=.agg (Evn.mk node idx false 0).av) rfl rfl (yS _),dF,a1,a2]
theorem abO(G:Good b H g)(hb:H.base<=b){l:List Evn}(h:g q=some (kJ l))(hl:l.length < 1000000)(node idx v:Int):
  ∃H',cl 155 [.ref q 0 0,I node,I idx,I v] H=some (.tup [],H')/\Good b H' (upd g q (kJ (l++[⟨node,idx,true,v⟩])))/\Step b H H':=by
 obtain⟨x,x',H1,H2,a0,a1,a2,a3,a4⟩:=NJ G hb h hl ⟨node,idx,true,v⟩;refine⟨H2,aN rfl rfl (akE _ _ _ _ _ _ ?_),a3,a4⟩;have ed:bd 51 [(0,I node),(1,I idx),(2,B true),(3,I v)]=some (.agg (Evn.mk node idx true v).av):=by
  simp -implicitDefEqProofs only [xq_,ahK,gV,dM,afi,Evn.av];rfl
 simp -implicitDefEqProofs only [xq_,ad2,a0,ed,aax,zbd,Nat.reduceLeDiff,jm (m:=4) (z:=[zI,zI,zB,zI]) (v:=.agg (Evn.mk node idx true v).av) rfl rfl (yS _),dF,a1,a2]
end
section
variable {b:Nat}{H:aj}{g:Store}{q:Nat}
theorem Zb(G:Good b H g)(hb:H.base<=b){p:Proc}(h:g q=some (nX p))(h1:p.ops.length < 1000)(h2:p.values.length < 1000)(hv:p.values.length<=p.ops.length):
  ∃v H',cl 112 [.ref q 0 0] H=some (v,H')/\Good b H' (upd g q (nX p.xJ))/\Step b H H':=by
 have l2:=G.load h (i:=2) (x:=B p.begun) rfl;have el:=Jy G h h1 h2;cases hbg:p.begun with
 | true=>
  have hm:p.xJ=p:=by simp [Proc.xJ,hbg]
  rw [hm];rw [hbg] at l2;refine⟨I 6,H,aN rfl rfl (XG _ _ _ ?_),by rw [dO h];exact G,Step.refl _ _⟩;simp -implicitDefEqProofs only [xq_,Rq,l2]
 | false=>
  rw [hbg] at l2;by_cases hl:p.left=0
  ·have hc:p.cur=none:=by
    unfold Proc.cur;unfold Proc.left at hl;exact zaG (by omega)
   have hm:p.xJ=p:=by simp [Proc.xJ,hc]
   rw [hm];rw [hl] at el;refine⟨I 6,H,aN rfl rfl (XG _ _ _ ?_),by rw [dO h];exact G,Step.refl _ _⟩;simp -implicitDefEqProofs only [xq_,Rq,l2,el]
  ·have hc:p.cur≠none:=by
    unfold Proc.cur;unfold Proc.left at hl;intro hn;have:=List.getElem?_eq_none_iff.1 hn;omega
   have hm:p.xJ={ p with begun:=true }:=by
    unfold Proc.xJ;rw [if_neg (by rw [hbg];exact λh=> h.elim (λh=> (by cases h)) hc)]
   obtain⟨H',s1,s2,s3,s4⟩:=G.store hb h (i:=2) (v:=B true) (by simp [nX]) Bf;rw [hm];refine⟨I 0,H',aN rfl rfl (XG _ _ _ ?_),s2,s3⟩;simp -implicitDefEqProofs only [xq_,Rq,l2,el,hl,s1]
theorem agS(G:Good b H g)(hb:H.base<=b){p:Proc}(h:g q=some (nX p))(h2:p.values.length < 1000)(v:Int):
  ∃r H',cl 154 [.ref q 0 0,I v] H=some (r,H')/\Good b H' (upd g q (nX (p.ZL v)))/\Step b H H':=by
 have l2:=G.load h (i:=2) (x:=B p.begun) rfl;cases hbg:p.begun with
 | false=>
  have hm:p.ZL v=p:=by simp [Proc.ZL,hbg]
  rw [hm];rw [hbg] at l2;refine⟨I 6,H,aN rfl rfl (ad1 _ _ _ _ ?_),by rw [dO h];exact G,Step.refl _ _⟩;simp -implicitDefEqProofs only [xq_,XU,l2,zal]
 | true=>
  have hm:p.ZL v=⟨p.ops,p.values++[v],false⟩:=by simp [Proc.ZL,hbg]
  rw [hm];rw [hbg] at l2;obtain⟨x,hx,c⟩:=G.seq h (i:=1) rfl;obtain⟨x',H1,H2,a1,a2,a3,a4⟩:=(G.new (.blk 0 3 [I v])).append (e:=3) (by_:=8) (n:=p.values.length) (by rw [bNew];exact hb) h (i:=1) rfl (by decide) (by simp) (c.new _) (jv (ex:=true) (n:=1) (m:=1) (l:=[I v]) rfl) rfl (by unfold most;omega) (by unfold most;omega);have h3:upd g q ((nX p).set 1 (.seq 1 (p.values.map I++[I v]))) q=some ((nX p).set 1 (.seq 1 (p.values.map I++[I v]))):=upd_same;obtain⟨H3,s1,s2,s3,s4⟩:=a3.store (by rw [a4.base,bNew];exact hb) h3 (i:=2) (v:=B false) (by simp [nX]) Bf;rw [mG] at s2;have eb:∀H,bs 22 1 [(0,I v)] H=some (.sl H.next 0 0 1 1 1 true,H.new (.blk 0 3 [I v])):=λH=> (Dx (by decide)).trans (jm rfl rfl rfl);refine⟨I 0,H3,aN rfl rfl (ad1 _ _ _ _ ?_),?_,((Step.new _ G.1).trans a4).trans s3⟩
  ·simp -implicitDefEqProofs only [xq_,XU,l2,zae,hx,eb,a1,a2,s1]
  ·have:nX ⟨p.ops,p.values++[v],false⟩=((nX p).set 1 (.seq 1 (p.values.map I++[I v]))).set 2 (.av (B false)):=by simp [nX]
   rw [this];exact s2
end
section
variable {b:Nat}{H:aj}{g:Store}{q:Nat}
theorem agT(G:Good b H g)(hb:H.base<=b){p:Proc}(h:g q=some (nX p))(h1:p.ops.length < 1000)(h2:p.values.length < 1000)(hv:p.values.length<=p.ops.length):
  ∃H',cl 102 [.ref q 0 0] H=some (.tup [.agg p.op.av,I p.idx,B p.cur.isSome],H')/\Good b H' g/\Step b H H':=by
 refine jw rfl rfl (ajS _ _ _) ?_;have L:=(Loc.of G).newL (ty:=86) (xs:=[zI,zI,zI]) (r:=H.next) rfl rfl;have s1:Step b H _:=Step.new (.blk 0 86 [zI,zI,zI]) G.1;have el:=Jy L.good (L.obj h) h1 h2;have hbK:(H.new (.blk 0 86 [zI,zI,zI])).base<=b:=by rw [bNew];exact hb
 have hz:Opn.zero.av=[zI,zI,zI]:=rfl;by_cases hl:p.left=0
 ·have hc:p.cur=none:=by
   unfold Proc.cur;unfold Proc.left at hl;exact zaG (by omega)
  obtain⟨K,t1,t2,t3,t4⟩:=L.whole hbK ak (n:=3) (vs:=[zI,zI,zI]) rfl rfl (by decide) rfl;have ez:bd 86 []=some (.agg [zI,zI,zI]):=by simp -implicitDefEqProofs only [xq_,aaA,gV,bZ]
  refine⟨K,?_,t3.out,s1.trans t4⟩;rw [hl] at el;have hi:p.idx=0:=by simp [Proc.idx,hc]
  have ho:p.op.av=[zI,zI,zI]:=by simp only [Proc.op,hc,za0];exact hz
  simp -implicitDefEqProofs only [xq_,XB,el,ez,t1,t2,hi,ho,hc,zaL]
 ·have hlt:p.values.length < p.ops.length:=by unfold Proc.left at hl;omega
  obtain⟨o,ho⟩:∃o,p.ops[p.values.length]?=some o:=⟨_,zab hlt⟩
  have hc:p.cur=some o:=ho;have l0:=L.good.load (L.obj h) (i:=0) (x:=vsl 3 Opn.av p.ops) rfl;obtain⟨x,hx,c⟩:=L.good.seq (L.obj h) (i:=1) rfl;have e2:=(c.is (n:=p.values.length) (by decide) (by simp)).lnS;have hs:=Dz dw (H.new (.blk 0 86 [zI,zI,zI])) p.ops;have e3:=hs.ix (k:=.i64) (i:=(p.values.length:Int)) (by omega) (by omega);rw [zar] at e3;have e4:=iW dw hs ho;obtain⟨K,t1,t2,t3,t4⟩:=L.whole hbK ak (n:=3) (vs:=o.av) rfl (dw _) (by decide) (lC _);have c1:∀{β:Type} (k:Option β),ck (aT (.ref q 0 1)) (H.new (.blk 0 86 [zI,zI,zI])) K k=k:=λk=> qH (lV t1 (by have:=G.lt h;omega));have c2:∀{β:Type} (k:Option β),ck (aT x) (H.new (.blk 0 86 [zI,zI,zI])) K k=k:=λk=> UD λr hr=> by
   refine lV t1 ?_;obtain⟨c0,hx0,cx⟩:=G.seq h (i:=1) rfl;have hxx:x=c0:=by
    have:=(cx.new (.blk 0 86 [zI,zI,zI])).load;rw [this] at hx;simp only [zaa,zad] at hx;exact hx.1.symm
   subst hxx;rcases cx.length (n:=p.values.length) (by decide) (by simp) with⟨rfl,_⟩ | ⟨r',gg,off,cap,ex,ty,all,rfl,q1,q2,q3,_⟩
   ·cases hr
   ·simp only [aT,zaa] at hr;omega
  refine⟨K,?_,t3.out,s1.trans t4⟩;have hi:p.idx=p.values.length:=by simp [Proc.idx,hc]
  have hop:p.op=o:=by simp [Proc.op,hc]
  simp -implicitDefEqProofs only [xq_,XB,el,hl,l0,hx,e2,e3,e4,t1,t2,c1,c2,hi,hop,hc,zaM]
end
theorem amg {β:Type}{s s0:Nat}{H H':aj}{k:Option β}(h:∀r,s<=r->r < s0->H'.get r=H.get r):ckR s s0 H H' k=k:=if_pos h
theorem GV(r gg o:Nat)(v:AV){H H':aj}(h:st 1 (.ref r gg (o+1)) v H=some (aO,H')):cl 198 [.ref r gg o,v] H=some (.tup [],H'):=by
 refine aN rfl rfl (alp _ _ _ _ ?_);simp -implicitDefEqProofs only [xq_,aep,h]
theorem Zc(r gg o:Nat)(v:AV){H H':aj}(h:st 1 (.ref r gg o) v H=some (aO,H')):cl 199 [.ref r gg o,v] H=some (.tup [],H'):=by
 refine aN rfl rfl (alq _ _ _ _ ?_);simp -implicitDefEqProofs only [xq_,aer,h]
section
variable {b:Nat}{H:aj}{g:Store}{q:Nat}{ca:Cache}
theorem JM {K:aj}{ls:Lcl}(L:Loc b K g ls)(hb:K.base<=b)(h:g q=some (bC ca))(C:COk ca)(e:Ent)(he:e.data.length < 1000000000)(out:Pkt){r4 r6 r8:Nat}(k4:ls r4=some zP9)(k6:ls r6=some e.av)(k8:ls r8=some out.av):
  ∃H',uV cl (.ref q 0 0) (.ref r4 0 0) (.ref r6 0 0) (.ref r8 0 0) K=some (.tup [.agg out.av,I (ca.put e).2],H')/\Good b H' (upd g q (bC (ca.put e).1))/\Step b K H':=by
 have l8:=L.lda k8 (i:=0) (n:=9) (ys:=out.av) rfl rfl (by decide);have l6:=L.lda k6 (i:=0) (n:=6) (ys:=e.av) rfl rfl (by decide);obtain⟨K1,a1,a2,a3⟩:=yD L.good hb (L.obj h) C e he;have M:=L.call h a2;have ck1:∀{β:Type} (k:Option β),ck (aT (.ref r8 0 0)) K K1 k=k:=λk=> qH (JL L.good M.good (JI _ _ _ _ _ a1) (mY k8) (mY k8));obtain⟨K2,u1,u2,u3,u4⟩:=M.whole (by rw [a3.base];exact hb) k4 (n:=9) (vs:=out.av) rfl rfl (by decide) (aJ _);refine⟨K2,?_,u3.out,a3.trans u4⟩;simp -implicitDefEqProofs only [xq_,uV,l8,l6,a1,u1,u2,ck1]
end
section
variable {b:Nat}{H:aj}{g:Store}{q:Nat}{ca:Cache}
def Vk(r:Cache × Pkt × Int):AV:=.tup [.agg r.2.1.av,I r.2.2]
theorem NM(G:Good b H g)(hb:H.base<=b)(h:g q=some (bC ca))(C:COk ca)(p:Pkt)(hx:(!p.ok || decide (p.kind < 3) || decide (6 < p.kind))=true∨ca.find p.line=none):
  ∃H',cl 165 [.ref q 0 0,.agg p.av] H=some (Vk (dV ca p),H')/\Good b H' (upd g q (bC (dV ca p).1))/\Step b H H':=by
 refine jw rfl rfl (ad8 _ _ _ _) ?_;have L1:=(Loc.of G).newL (ty:=70) (xs:=p.av) (r:=H.next) (aJ p) rfl;have L2:=L1.newL (ty:=70) (xs:=zP9) (r:=H.next+1) rfl (by rw [nNew]);have s2:Step b H _:=(Step.new (.blk 0 70 p.av) G.1).trans (Step.new (.blk 0 70 zP9) L1.good.1);have k0:fO (fO noL H.next p.av) (H.next+1) zP9 H.next=some p.av:=by rw [aA (by omega),ak]
 have p0:=L2.ld k0 (i:=0) (v:=I p.kind) rfl;have p4:=L2.ld k0 (i:=4) (v:=I p.line) rfl;have pA:=L2.lda k0 (i:=0) (n:=9) (ys:=p.av) rfl rfl (by decide);have ck:=λH=> yw H p;have ez:bd 70 []=some (.agg zP9):=by simp -implicitDefEqProofs only [xq_,wF,gV,bZ]
 have hbK:((H.new (.blk 0 70 p.av)).new (.blk 0 70 zP9)).base<=b:=by rw [s2.base];exact hb
 by_cases h1:(!p.ok || decide (p.kind < 3) || decide (6 < p.kind))=true
 ·have hm:dV ca p=(ca,.zero,1):=by simp only [dV];rw [if_pos h1]
  rw [hm];obtain⟨K,z1,z2,z3,z4⟩:=L2.whole hbK ak (n:=9) (vs:=zP9) rfl rfl (by decide) rfl;refine⟨K,?_,by rw [dO h];exact z3.out,s2.trans z4⟩;cases hok:p.ok with
  | false=>
   rw [hok] at ck;simp -implicitDefEqProofs only [Nat.reduceLT,Int.reduceEq,xq_,x9,aB (aJ p),pA,ck,zal,ez,z1,z2,Vk,dN]
  | true=>
   rw [hok] at ck h1;by_cases h3:p.kind < 3
   ·simp -implicitDefEqProofs only [Nat.reduceLT,xq_,x9,aB (aJ p),pA,ck,zae,p0,h3,ez,z1,z2,Vk,dN]
   ·have h6:6 < p.kind:=by simpa [h3] using h1
    simp -implicitDefEqProofs only [Nat.reduceLT,xq_,x9,aB (aJ p),pA,ck,zae,p0,h3,h6,ez,z1,z2,Vk,dN]
 ·have hfn:ca.find p.line=none:=hx.resolve_left h1;have hm:dV ca p=(ca,.zero,3):=by simp only [dV,hfn];rw [if_neg h1];rfl
  rw [hm];have hok:p.ok=true/\¬p.kind < 3/\¬6 < p.kind:=by
   cases ho:p.ok <;> simp_all
  have ef:=oq L2.good (L2.obj h) C.len C.dat p.line;rw [hfn] at ef;simp only [mg,za0,zaL,rU] at ef;have LE:=L2.newL (ty:=93) (xs:=zE6) (r:=H.next+1+1) rfl (by rw [nNew,nNew]);have sE:Step b H _:=s2.trans (Step.new (.blk 0 93 zE6) L2.good.1);obtain⟨KE,x1,x2,ME,x4⟩:=LE.whole (by rw [sE.base];exact hb) ak (n:=6) (vs:=zE6) rfl rfl (by decide) rfl;have tE:=sE.trans x4;obtain⟨K,z1,z2,z3,z4⟩:=ME.whole (by rw [tE.base];exact hb) (r:=H.next+1) (xs:=zP9) (by rw [aA (by omega),aA (by omega),ak]) (n:=9) (vs:=zP9) rfl rfl (by decide) rfl;refine⟨K,?_,by rw [dO h];exact z3.out,tE.trans z4⟩;rw [hok.1] at ck;simp -implicitDefEqProofs only [Nat.reduceLT,xq_,x9,aB (aJ p),pA,ck,zae,zal,p0,hok.2.1,hok.2.2,p4,ef,x1,ez,z1,z2,Vk,dN]
end
section
variable {b:Nat}{H:aj}{g:Store}{q:Nat}{ca:Cache}
theorem abP(G:Good b H g)(hb:H.base<=b)(h:g q=some (bC ca))(C:COk ca)(p:Pkt)(hx:¬(!p.ok || decide (p.kind < 3) || decide (6 < p.kind))=true){e:Ent}(hfd:ca.find p.line=some e):
  ∃H',cl 165 [.ref q 0 0,.agg p.av] H=some (Vk (dV ca p),H')/\Good b H' (upd g q (bC (dV ca p).1))/\Step b H H':=by
 have hok:p.ok=true/\¬p.kind < 3/\¬6 < p.kind:=by
  cases ho:p.ok <;> simp_all
 have he:e.data.length < 1000000000:=C.dat e (za4 hfd);refine jw rfl rfl (ad8 _ _ _ _) ?_;have L1:=(Loc.of G).newL (ty:=70) (xs:=p.av) (r:=H.next) (aJ p) rfl;have L2:=L1.newL (ty:=70) (xs:=zP9) (r:=H.next+1) rfl (by rw [nNew]);have s2:Step b H _:=(Step.new (.blk 0 70 p.av) G.1).trans (Step.new (.blk 0 70 zP9) L1.good.1);have k0:fO (fO noL H.next p.av) (H.next+1) zP9 H.next=some p.av:=by rw [aA (by omega),ak]
 have p0:=L2.ld k0 (i:=0) (v:=I p.kind) rfl;have p4:=L2.ld k0 (i:=4) (v:=I p.line) rfl;have pA:=L2.lda k0 (i:=0) (n:=9) (ys:=p.av) rfl rfl (by decide);have ck:=λH=> yw H p;have ef:=oq L2.good (L2.obj h) C.len C.dat p.line;rw [hfd] at ef;simp only [mg,zay,zaM] at ef;have LE:=L2.newL (ty:=93) (xs:=zE6) (r:=H.next+1+1) rfl (by rw [nNew,nNew]);have sE:Step b H _:=s2.trans (Step.new (.blk 0 93 zE6) L2.good.1);obtain⟨KE,x1,x2,ME,x4⟩:=LE.whole (by rw [sE.base];exact hb) ak (n:=6) (vs:=e.av) rfl rfl (by decide) (jK e);have tE:=sE.trans x4;have nE:H.next+1+1 < KE.next:=ME.good.lt (mY (g:=g) ak)
 have LO:=ME.newL (ty:=70) (xs:=zP9) (r:=KE.next) rfl rfl;have tO:=tE.trans (Step.new (.blk 0 70 zP9) ME.good.1);let out:Pkt:=⟨IE p.kind,p.dst,p.src,p.id,p.line,0,0,false,[]⟩
 have y0:∀{xs:List AV} {l:Lcl},True:=λ{_ _}=> trivial;obtain⟨K0,o1,o2,M0,o4⟩:=LO.whole (by rw [bNew,tE.base];exact hb) (r:=KE.next) ak (n:=9) (vs:=out.av) rfl (aY _) (by decide) (aJ _);have t0:=tO.trans o4;have hbK:K0.base<=b:=by rw [t0.base];exact hb
 have ebd:bd 70 [(0,I (IE p.kind)),(1,I p.dst),(2,I p.src),(3,I p.id),(4,I p.line)]=some (.agg out.av):=by
  simp -implicitDefEqProofs only [xq_,wF,gV,dM,O4,out,Pkt.av,Au];rfl
 have ea:=λH=> Nz H p.kind;have m0:∀{l:Lcl},fO (fO (fO (fO (fO (fO noL H.next p.av) (H.next+1) zP9) (H.next+1+1) zE6) (H.next+1+1) e.av) KE.next zP9) KE.next out.av H.next=some p.av:=λ{_}=> by
  rw [aA (by omega),aA (by omega),aA (by omega),aA (by omega),aA (by omega),ak]
 have kE0:fO (fO (fO (fO (fO noL H.next p.av) (H.next+1) zP9) (H.next+1+1) zE6) (H.next+1+1) e.av) KE.next zP9 H.next=some p.av:=by
  rw [aA (by omega),aA (by omega),aA (by omega),aA (by omega),ak]
 have r0:=LO.ld kE0 (i:=0) (v:=I p.kind) rfl;have r1:=LO.ld kE0 (i:=1) (v:=I p.src) rfl;have r2:=LO.ld kE0 (i:=2) (v:=I p.dst) rfl;have r3:=LO.ld kE0 (i:=3) (v:=I p.id) rfl;have r4:=LO.ld kE0 (i:=4) (v:=I p.line) rfl;have q0:=M0.ld (m0 (l:=noL)) (i:=0) (v:=I p.kind) rfl;have q5:=M0.ld (m0 (l:=noL)) (i:=5) (v:=I p.ptr) rfl;rw [hok.1] at ck;by_cases h4:p.kind=4
 ·have hm:dV ca p=((ca.put { e with fwd:=p.ptr }).1,out,(ca.put { e with fwd:=p.ptr }).2):=by
   simp only [dV,hfd];rw [if_neg hx,if_neg (by omega),if_pos h4]
  rw [hm];obtain⟨K1,u1,M1,w1⟩:=M0.st hbK (r:=H.next+1+1) (xs:=e.av) (by rw [aA (by omega),aA (by omega),ak]) (i:=0) (v:=I p.ptr) (by simp [Ent.av]) bJ;have t1:=t0.trans w1;obtain⟨H',f1,f2,f3⟩:=JM M1 (by rw [t1.base];exact hb) h C { e with fwd:=p.ptr } he out (r4:=H.next+1) (r6:=H.next+1+1) (r8:=KE.next) (by rw [aA (by omega),aA (by omega),aA (by omega),aA (by omega),aA (by omega),ak]) (by rw [ak];rfl) (by rw [aA (by omega),ak]);refine⟨H',?_,f2,t1.trans f3⟩;have sf:=Zc _ _ _ _ u1;rw [h4] at q0;simp -implicitDefEqProofs only [Nat.reduceLT,Int.reduceEq,xq_,x9,aB (aJ p),pA,ck,zae,p0,hok.2.1,hok.2.2,p4,ef,x1,r0,ea,r1,r2,r3,r4,ebd,o1,q0,q5,sf,f1,Vk]
 ·by_cases h5:p.kind=5
  ·have hm:dV ca p=((ca.put { e with back:=p.ptr }).1,out,(ca.put { e with back:=p.ptr }).2):=by
    simp only [dV,hfd];rw [if_neg hx,if_neg (by omega),if_neg h4,if_pos h5]
   rw [hm];obtain⟨K1,u1,M1,w1⟩:=M0.st hbK (r:=H.next+1+1) (xs:=e.av) (by rw [aA (by omega),aA (by omega),ak]) (i:=1) (v:=I p.ptr) (by simp [Ent.av]) bJ;have t1:=t0.trans w1;obtain⟨H',f1,f2,f3⟩:=JM M1 (by rw [t1.base];exact hb) h C { e with back:=p.ptr } he out (r4:=H.next+1) (r6:=H.next+1+1) (r8:=KE.next) (by rw [aA (by omega),aA (by omega),aA (by omega),aA (by omega),aA (by omega),ak]) (by rw [ak];rfl) (by rw [aA (by omega),ak]);refine⟨H',?_,f2,t1.trans f3⟩;have sf:=GV _ _ 0 _ u1;rw [h5] at q0;simp -implicitDefEqProofs only [Nat.reduceLT,Int.reduceEq,xq_,x9,aB (aJ p),pA,ck,zae,p0,hok.2.1,hok.2.2,p4,ef,x1,r0,ea,r1,r2,r3,r4,ebd,o1,q0,q5,sf,f1,Vk]
  ·have zE:fO (fO (fO (fO (fO (fO noL H.next p.av) (H.next+1) zP9) (H.next+1+1) zE6) (H.next+1+1) e.av) KE.next zP9) KE.next out.av (H.next+1+1)=some e.av:=by rw [aA (by omega),aA (by omega),ak]
   have g5:=M0.ld zE (i:=5) (v:=dat e.data) rfl;have g4:=M0.ld zE (i:=4) (v:=B e.dirty) rfl;have g0:=M0.ld zE (i:=0) (v:=I e.fwd) rfl;obtain⟨K1,u1,M1,w1⟩:=M0.st hbK (r:=KE.next) ak (i:=8) (v:=dat e.data) (by simp [Pkt.av]) pK;have t1:=t0.trans w1;obtain⟨K2,u2,M2,w2⟩:=M1.st (by rw [t1.base];exact hb) (r:=KE.next) ak (i:=7) (v:=B e.dirty) (by simp [Pkt.av]) Bf;have t2:=t1.trans w2;have c1:∀{β:Type} (o:Nat) (k:Option β),Proofs.YthmoogcacpmjiaaGreat.ck (aT (.ref (H.next+1+1) 0 o)) K0 K1 k=k:=λo k=> qH (lV u1 (by omega));have c2:∀{β:Type} (o:Nat) (k:Option β),Proofs.YthmoogcacpmjiaaGreat.ck (aT (.ref (H.next+1+1) 0 o)) K1 K2 k=k:=λo k=> qH (lV u2 (by omega));by_cases h3:p.kind=3
   ·have hm:dV ca p=((ca.put { e with dirty:=false,back:=p.ptr }).1,{ out with data:=e.data,flag:=e.dirty },(ca.put { e with dirty:=false,back:=p.ptr }).2):=by
     simp only [dV,hfd];rw [if_neg hx,if_pos h3]
    rw [hm];obtain⟨K3,u3,M3,w3⟩:=M2.st (by rw [t2.base];exact hb) (r:=H.next+1+1) (xs:=e.av) (by rw [aA (by omega),aA (by omega)];exact zE) (i:=4) (v:=B false) (by simp [Ent.av]) Bf;have t3:=t2.trans w3;have q5':=M3.ld (r:=H.next) (xs:=p.av) (i:=5) (v:=I p.ptr) (by rw [aA (by omega),aA (by omega),aA (by omega)];exact m0 (l:=noL)) rfl;obtain⟨K4,u4,M4,w4⟩:=M3.st (by rw [t3.base];exact hb) (r:=H.next+1+1) ak (i:=1) (v:=I p.ptr) (by simp [Ent.av]) bJ;have t4:=t3.trans w4;obtain⟨H',f1,f2,f3⟩:=JM M4 (by rw [t4.base];exact hb) h C { e with dirty:=false,back:=p.ptr } he { out with data:=e.data,flag:=e.dirty } (r4:=H.next+1) (r6:=H.next+1+1) (r8:=KE.next) (by rw [aA (by omega),aA (by omega),aA (by omega),aA (by omega),aA (by omega),aA (by omega),aA (by omega),aA (by omega),ak]) (by rw [ak];rfl) (by rw [aA (by omega),aA (by omega),ak];rfl);refine⟨H',?_,f2,t4.trans f3⟩;have sf:=GV _ _ 0 _ u4;rw [h3] at q0;simp -implicitDefEqProofs only [Nat.reduceLT,Int.reduceEq,xq_,x9,aB (aJ p),pA,ck,zae,p0,hok.2.1,hok.2.2,p4,ef,x1,r0,ea,r1,r2,r3,r4,ebd,o1,q0,g5,g4,u1,u2,c1,u3,q5',sf,f1,Vk]
   ·have h6:p.kind=6:=by omega
    have hm:dV ca p=(ca.drop p.line,{ out with data:=e.data,flag:=e.dirty,ptr:=e.fwd },0):=by
     simp only [dV,hfd];rw [if_neg hx,if_neg h3,if_neg h4,if_neg h5]
    rw [hm];obtain⟨K3,u3,M3,w3⟩:=M2.st (by rw [t2.base];exact hb) (r:=KE.next) ak (i:=5) (v:=I e.fwd) (by simp [Pkt.av]) bJ;have t3:=t2.trans w3;have q4:=M3.ld (r:=H.next) (xs:=p.av) (i:=4) (v:=I p.line) (by rw [aA (by omega),aA (by omega),aA (by omega)];exact m0 (l:=noL)) rfl;obtain⟨K4,a1,a2,a3⟩:=EC M3.good (by rw [t3.base];exact hb) (M3.obj h) C.len C.dat p.line;have M4:=M3.call h a2;have t4:=t3.trans a3;have lo:=M4.lda (r:=KE.next) ak (i:=0) (n:=9) (ys:=({ out with data:=e.data,flag:=e.dirty,ptr:=e.fwd }:Pkt).av) rfl rfl (by decide);obtain⟨K5,v1,v2,v3,v4⟩:=M4.whole (by rw [t4.base];exact hb) (r:=H.next+1) (xs:=zP9) (by rw [aA (by omega),aA (by omega),aA (by omega),aA (by omega),aA (by omega),aA (by omega),aA (by omega),ak]) (n:=9) (vs:=({ out with data:=e.data,flag:=e.dirty,ptr:=e.fwd }:Pkt).av) rfl (aY _) (by decide) (aJ _);refine⟨K5,?_,v3.out,t4.trans v4⟩;rw [h6] at q0;simp -implicitDefEqProofs only [Nat.reduceLT,Int.reduceEq,xq_,x9,aB (aJ p),pA,ck,zae,p0,hok.2.1,hok.2.2,p4,ef,x1,r0,ea,r1,r2,r3,r4,ebd,o1,q0,g5,g4,g0,u1,u2,u3,c1,c2,q4,a1,lo,v1,v2,Vk]
end
section
variable {b:Nat}{H:aj}{g:Store}{q d tt:Nat}{c:Cfg}{me:Int}{h:Home}
theorem UY(G:Good b H g)(N:kW g q d tt c me h)(T:TOk h.turns):cl 106 [.ref q 0 0] H=some (B (decide (h.ready≠[])),H):=by
 refine aW rfl rfl (ajX _ _ _) ?_ dW;have l1:=G.guard.load N.1 (i:=1) (x:=.ref tt 0 0) rfl;have e1:=GR G.guard N.2.2 T;have e2:=(jr H.guard h.ready).lnS;have hr:h.turns.ready (srt [] (h.turns.wait.map (·.1)))=h.ready:=rfl;rw [hr] at e1;by_cases hz:h.ready=[]
 ·have:¬(0:Int) < (h.ready.length:Int):=by rw [hz];decide
  simp -implicitDefEqProofs only [xq_,XD,l1,e1,hz,ne_eq,not_true_eq_false]
  try rfl
 ·have:(0:Int) < (h.ready.length:Int):=by
   cases hx:h.ready with
   | nil=> exact absurd hx hz
   | cons a l=> simp only [zak];omega
  simp -implicitDefEqProofs only [xq_,XD,l1,e1,e2,this,hz,ne_eq,not_false_eq_true]
end
section
variable {b:Nat}{H:aj}{g:Store}{q d tt:Nat}{c:Cfg}{me:Int}{h:Home}
theorem abQ(G:Good b H g)(hb:H.base<=b)(N:kW g q d tt c me h)(T:TOk h.turns)(hr:∀e∈h.rows,e.2.data.length < 1000000000):
  ∃H',cl 108 [.ref q 0 0] H=some (.tup [.agg (h.grant me).2.1.av,B (h.grant me).2.2],H')/\Good b H' (jL g d tt c (h.grant me).1)/\Step b H H':=by
 refine jw rfl rfl (ajZ _ _ _) ?_;have L:=(Loc.of G).newL (ty:=70) (xs:=zP9) (r:=H.next) rfl rfl;have s1:Step b H _:=Step.new (.blk 0 70 zP9) G.1;have hbK:(H.new (.blk 0 70 zP9)).base<=b:=by rw [bNew];exact hb
 have l1:=L.good.load (L.obj N.1) (i:=1) (x:=.ref tt 0 0) rfl;have e1:=GR L.good (L.obj N.2.2) T;have e2:=(jr (H.new (.blk 0 70 zP9)) h.ready).lnS;have hre:h.turns.ready (srt [] (h.turns.wait.map (·.1)))=h.ready:=rfl;rw [hre] at e1;have ez:bd 70 []=some (.agg zP9):=by simp -implicitDefEqProofs only [xq_,wF,gV,bZ]
 cases hz:h.ready with
 | nil=>
  have hm:h.grant me=(h,.zero,false):=by simp only [Home.grant,hz]
  rw [hm,Cj N];obtain⟨K,z1,z2,z3,z4⟩:=L.whole hbK ak (n:=9) (vs:=zP9) rfl rfl (by decide) rfl;refine⟨K,?_,z3.out,s1.trans z4⟩;rw [hz] at e1 e2;have n0:¬((0:Int) < ((([]:List Int).length:Nat):Int)):=by decide
  simp -implicitDefEqProofs only [xq_,XF,l1,e1,e2];rw [Ro];simp -implicitDefEqProofs only [xq_,n0,ez,z1,z2,dN]
 | cons line rest=>
  obtain⟨m1,m2,_⟩:=Ea hz;obtain⟨w,ws,hw⟩:∃w ws,h.turns.ws line=w::ws:=by
   cases hx:h.turns.ws line with
   | nil=> exact absurd hx m2
   | cons a l=> exact⟨a,l,rfl⟩
  have hn:h.turns.next line=(⟨mM h.turns.iq line w.1,mM h.turns.wait line ws⟩,some w):=by simp only [Turns.next,m1,hw,zai,if_false]
  have hm:h.grant me=({ h with turns:=(h.turns.next line).1 },granted h.rows me line w.1 w.2,true):=by simp only [Home.grant,hz,hn]
  rw [hm];obtain⟨K1,a1,a2,a3⟩:=YR L.good hbK (L.obj N.2.2) T.nd line (T.ws line);have M:=L.call N.2.2 a2;have NK:=N.agJ { h with turns:=(h.turns.next line).1 };rw [wM N] at NK ⊢;have NL:kW (lay (upd g tt (fZ (h.turns.next line).1)) (fO noL H.next zP9)) q d tt c me { h with turns:=(h.turns.next line).1 }:=⟨M.obj NK.1,M.obj NK.2.1,M.obj NK.2.2⟩
  have gr:=GN M.good NL hr line w.1 w.2;obtain⟨K,z1,z2,z3,z4⟩:=M.whole (by rw [a3.base];exact hbK) ak (n:=9) (vs:=(granted h.rows me line w.1 w.2).av) rfl (aY _) (by decide) (aJ _);refine⟨K,?_,z3.out,(s1.trans a3).trans z4⟩;have hs:=jr (H.new (.blk 0 70 zP9)) h.ready;have x1:=hs.ix (k:=.i64) (i:=(0:Int)) (by omega) (by rw [hz];simp only [zak];omega);have x2:=hs.ld (i:=0) (by rw [hz];simp);rw [hz] at x1 x2 e1 e2;simp only [zaC,za1,zah] at x2;rw [show((0:Int).toNat)=0 from rfl] at x1;have n0:(0:Int) < (((line::rest).length:Nat):Int):=by simp only [zak];omega
  rw [hn] at a1;simp only [alS,zay,zaM] at a1;simp -implicitDefEqProofs only [xq_,XF,l1,e1,e2];rw [Ro];simp -implicitDefEqProofs only [xq_,n0,x1,x2,l1,a1,gr,z1,z2]
end
structure NS(c:Cfg)(me:Int)(n:Node)(r:dD):Prop where
 sim:aiv c me n r
 rok:(r.homes.turns.owner.map (·.1)).Nodup
 rge:∀o∈r.homes.turns.owner,0<=o.2
theorem NS.cs {c:Cfg}{me:Int}{n:Node}{r:dD}(S:NS c me n r):tV n.cache r.cache:=⟨S.sim.sets,S.sim.ways,S.sim.clock,S.sim.sorted,S.sim.perm⟩
theorem NS.hs {c:Cfg}{me:Int}{n:Node}{r:dD}(S:NS c me n r):EP c me n.home r.homes:=⟨S.sim.rows,S.sim.none,⟨S.sim.owner,S.sim.waits,S.rok,S.rge⟩⟩
theorem NS.of {c:Cfg}{me:Int}{n:Node}{r:dD}(C:tV n.cache r.cache)(H:EP c me n.home r.homes)(h1:r.ops=n.proc.ops)(h2:r.values=n.proc.values)(h3:r.begun=n.proc.begun)(h4:r.has=!decide (n.deal.step=0))(h5:r.deal=if n.deal.step=0 then .zero else n.deal)(h6:r.num=n.num):NS c me n r:=
 ⟨⟨h1,h2,h3,h4,h5,h6,C.sets,C.ways,C.clock,C.sorted,C.perm,H.rows,H.none,H.turns.owner,H.turns.waits⟩,H.turns.rok,H.turns.rge⟩
structure aqr(c:Cfg)(o:Opn):Prop where
 k1:1<=o.kind
 k4:o.kind<=4
 line:c.dh o.addr=o.addr.tdiv c.words
 lo:0<=c.dh o.addr
 hi:c.dh o.addr < c.lines
 word:c.iJ o.addr=o.addr.tmod c.words
 wlo:0<=c.iJ o.addr
 whi:c.iJ o.addr < c.words
theorem apG {c:Cfg}(hc:c.ok=true){o:Opn}(h:c.right o=true):aqr c o:=by
 obtain⟨_,hl,hw,_⟩:=Gl hc;unfold Cfg.right at h;simp only [zaj,decide_eq_true_eq] at h;obtain⟨⟨⟨h1,h2⟩,h3⟩,_⟩:=h;have h4:¬(o.addr < 0∨c.jA<=o.addr):=λe=> h3 (by unfold Cfg.dh;rw [if_pos e]);simp only [not_or] at h4;have e1:c.dh o.addr=o.addr / c.words:=by unfold Cfg.dh;rw [if_neg (by simp only [not_or];exact h4)]
 have e2:c.iJ o.addr=o.addr % c.words:=by unfold Cfg.iJ;rw [if_neg (by simp only [not_or];exact h4)]
 have ha:o.addr < c.lines*c.words:=by have:=h4.2;unfold Cfg.jA at this;omega
 refine⟨h1,h2,?_,?_,?_,?_,?_,?_⟩
 ·rw [e1,Int.tdiv_eq_ediv_of_nonneg (by omega)]
 ·rw [e1];exact Int.ediv_nonneg (by omega) (by omega)
 ·rw [e1];exact Int.ediv_lt_of_lt_mul (by omega) ha
 ·rw [e2,zbJ (by omega)]
 ·rw [e2];exact Int.emod_nonneg _ (by omega)
 ·rw [e2];exact Int.emod_lt_of_pos _ (by omega)
theorem abR {c:Cfg}{e:Ent}{o:Opn}{w:Int}(hd:lY c e.data)(h0:0<=w)(h1:w < c.words)(hw:o.kind=2∨o.kind=3->e.dirty=true):iE e o w=IJ e o w.toNat/\e.word w=e.data.getD w.toNat 0:=by
 have hl:w < e.data.length:=by rw [hd.1];exact h1
 have hword:e.word w=e.data.getD w.toNat 0:=by unfold Ent.word;rw [if_pos ⟨h0,hl⟩]
 refine⟨?_,hword⟩;unfold iE IJ;by_cases k2:o.kind=2
 ·rw [if_pos k2,if_pos k2];unfold Ent.write;rw [if_pos ⟨hw (.inl k2),h0,hl⟩]
 ·rw [if_neg k2,if_neg k2];by_cases k3:o.kind=3
  ·rw [if_pos k3,if_pos k3,hword];unfold Ent.write;rw [if_pos ⟨hw (.inr k3),h0,hl⟩]
  ·rw [if_neg k3,if_neg k3]
theorem kG(e:Ent)(o:Opn)(w:Int):(iE e o w).line=e.line/\(iE e o w).used=e.used/\(iE e o w).dirty=e.dirty/\(iE e o w).data.length=e.data.length:=by
 unfold iE;split
 ·unfold Ent.write;split <;> simp
 ·split
  ·unfold Ent.write;split <;> simp
  ·simp
theorem UZ {c:Cfg}{e:Ent}{o:Opn}{w:Int}(hd:lY c e.data)(ho:I64 o.value):lY c (iE e o w).data:=by
 refine⟨by rw [(kG e o w).2.2.2];exact hd.1,?_⟩;have key:∀v,I64 v->∀x∈(e.write w v).data,I64 x:=by
  intro v hv x hx;unfold Ent.write at hx;split at hx
  ·rcases zbM hx with h | h
   ·exact hd.2 x h
   ·rw [h];exact hv
  ·exact hd.2 x hx
 unfold iE;split
 ·exact key _ ho
 ·split
  ·exact key _ (aiy _)
  ·exact hd.2
structure Eff(c:Cfg)(me:Int)(n:Node)(r:dD)(t:List Evn)(A:NT)(B:RNT):Prop where
 sim:tV A.1.cache B.1.cache
 rest:B.1={ r with cache:=B.1.cache,values:=n.proc.values++[A.2.getLast?.elim 0 (·.value)],begun:=false }
 JO:A.1={ n with cache:=A.1.cache,proc:=⟨n.proc.ops,n.proc.values++[A.2.getLast?.elim 0 (·.value)],false⟩ }
 ev:B.2=A.2
 inv:Bo c A.1.cache
 len:A.2.length=t.length+1
theorem GX {c:Cfg}(hc:c.ok=true){me:Int}{n:Node}{r:dD}(C:tV n.cache r.cache)(hv:r.values=n.proc.values)(I:Bo c n.cache)(t:List Evn){o:Opn}{e:Ent}
  (ho:n.proc.cur=some o) (hr:c.right o=true) (hov:I64 o.value) (hb:n.proc.begun=true) (he:n.cache.find (c.dh o.addr)=some e) (hd:o.kind=2∨o.kind=3->e.dirty=true):
  Eff c me n r t (n.effect c me t) ((r.effect c o).1.done me t (r.effect c o).2):=by
 have O:=apG hc hr;obtain⟨hem,hel⟩:=(gG I.lines).1 he;have E:=I.ent e hem;obtain⟨x1,x2⟩:=abR (o:=o) E.dat O.wlo O.whi hd;obtain⟨y1,y2,y3,y4⟩:=kG e o (c.iJ o.addr);have hop:n.proc.op=o:=by unfold Proc.op;rw [ho];rfl
 have hidx:n.proc.idx=n.proc.values.length:=by unfold Proc.idx;rw [ho]
 have hput:=kT I.lines (e:=iE e o (c.iJ o.addr)) (by rw [y1];exact E.lo) (by rw [y1,hel];exact he);have hsame:({ iE e o (c.iJ o.addr) with used:=e.used }:Ent)=iE e o (c.iJ o.addr):=by rw [<-y2]
 rw [hsame,y1] at hput
 -- the document's place
 have hrf:r.cache.find (o.addr.tdiv c.words)=some e:=by rw [C.find,<-O.line];exact he
 obtain⟨i,i1,i2⟩:=qo hrf;have hset:=DY C.LG (v:=IJ e o (c.iJ o.addr).toNat) i2;have hA:n.effect c me t=({ n with cache:={ n.cache with l:=n.cache.l.map λy=> if y.line=e.line then iE e o (c.iJ o.addr) else y },proc:=⟨n.proc.ops,n.proc.values++[if o.kind=2 then 0 else e.word (c.iJ o.addr)],false⟩ },t++[⟨me,n.proc.values.length,true,if o.kind=2 then 0 else e.word (c.iJ o.addr)⟩]):=by
  unfold Node.effect;simp only [hop,he,zay,hput];unfold Node.done;simp only [Proc.ZL,hb,if_true,hidx]
 have hB:(r.effect c o).1.done me t (r.effect c o).2=({ r with cache:={ r.cache with l:=r.cache.l.map λy=> if y.line=e.line then iE e o (c.iJ o.addr) else y },values:=n.proc.values++[if o.kind=2 then 0 else e.word (c.iJ o.addr)],begun:=false },t++[⟨me,n.proc.values.length,true,if o.kind=2 then 0 else e.word (c.iJ o.addr)⟩]):=by
  unfold dD.effect;rw [i1];simp only [zay];rw [zax,i2,zay,<-O.word,hset,<-x1,<-x2];unfold dD.done;simp only [hv]
 rw [hA,hB];refine⟨?_,?_,?_,rfl,?_,by simp⟩
 ·have:=C.mapped (f:=λy=> if y.line=e.line then iE e o (c.iJ o.addr) else y) (λy _=> by
   try simp only
   split
   ·rename_i h;rw [h];exact y1
   ·rfl) n.cache.clock
  have e2:({ r.cache with l:=r.cache.l.map λy=> if y.line=e.line then iE e o (c.iJ o.addr) else y }:Cache)={ r.cache with l:=r.cache.l.map λy=> if y.line=e.line then iE e o (c.iJ o.addr) else y,clock:=n.cache.clock }:=by rw [<-C.clock]
  simp only [e2];exact this
 ·simp [List.getLast?_append]
 ·simp [List.getLast?_append]
 ·have:=I.put (e:=iE e o (c.iJ o.addr)) (by rw [y1];exact E.lo) (by rw [y1];exact E.hi) (UZ E.dat hov);rw [hput] at this;exact this
theorem JQ {ca:Cache}(hl:Lines ca.l){e:Ent}(h0:0<=e.line)(hf:ca.full e.line=false):∃u,(ca.put e).1.find e.line=some { e with used:=u }:=by
 cases h:ca.find e.line with
 | some x=>
  refine⟨x.used,?_⟩;rw [kT hl h0 h];obtain⟨hx,hxl⟩:=(gG hl).1 h;unfold Cache.find;rw [gG (xQ hl λy _=> by
   split
   ·rename_i h;exact h.symm
   ·rfl)]
  exact⟨zaN.2 ⟨x,hx,by rw [if_pos hxl]⟩,rfl⟩
 | none=>
  refine⟨ca.clock+1,?_⟩;unfold Cache.put;rw [if_neg (by omega),yY.2 h];simp only [hf,zai,if_false];unfold Cache.find;rw [List.find?_append];have:(ca.l.find? λx=> decide (x.line=e.line))=none:=h;rw [this];simp
theorem EK(ca:Cache)(e:Ent):(ca.put e).1.clock<=ca.clock+1:=by
 unfold Cache.put;split
 ·simp only;omega
 ·split
  ·simp only;omega
  ·split <;> simp only <;> omega
theorem zT(ca:Cache)(line:Int):(ca.drop line).clock=ca.clock:=by
 unfold Cache.drop;split <;> rfl
theorem uJ(me:Int)(n:Node)(p:Pkt):n.after me p=vT n.deal me n.cache p:=rfl
theorem yF {d:bF}{me:Int}{ca:Cache}{p:Pkt}(h:d.fits p=false):vT d me ca p=oD ca:=by
 have h1:bV d me ca p=oD ca:=by unfold bV;rw [if_pos (.inr h)]
 have h2:bW d me ca p=oD ca:=by unfold bW;rw [if_pos (.inr h)]
 have h3:dn d ca p=oD ca:=by unfold dn;rw [if_pos (.inr h)]
 unfold vT;rw [h1,h2,h3];split
 ·rfl
 ·split
  ·rfl
  ·split <;> rfl
theorem Zd {d:bF}{p:Pkt}(h:d.fits p=true):p.kind=IE (Oh d.step):=by
 unfold bF.fits at h;simp only [zaj,decide_eq_true_eq] at h;exact h.1.1.2
structure EL(c:Cfg)(d:bF)(ca:Cache)(d':bF)(ca':Cache):Prop where
 inv:Bo c ca'
 line:d'.line=d.line
 kind:d'.kind=d.kind
 dat:d'.data=[]∨lY c d'.data
 afq:d'.kind=2->d'.step=3->lY c d'.data
 clk:ca'.clock<=ca.clock∨(d.kind≠3/\d'.step=6/\ca'.clock<=ca.clock+1)
 way:(d.step=6/\d'.step=0/\ca'=ca)∨(d'.step≠0/\d.step≠6/\(d.kind≠3->(d'.step≠6/\ca'=ca)∨(d'.step=6/\∃e,ca'.find d.line=some e/\(d.kind=2->e.dirty=true))))
theorem Tj {c:Cfg}{ca:Cache}(I:Bo c ca){d:bF}{me:Int}(h0:0<=d.line)(h1:d.line < c.lines)(hf:ca.full d.line=false)(hd:lY c d.data)(hk:d.kind=2)(hs:d.step≠6){d0:bF}(e1:d0.line=d.line)(e2:d0.kind=d.kind)(e3:d0.step≠6):
  EL c d0 ca (bD d me ca).2 (bD d me ca).1:=by
 have key:∀d':bF,d'.line=d.line->d'.kind=d.kind->d'.data=d.data->EL c d0 ca (if d'.next≠-1 then(ca,{ d' with step:=3 }) else((ca.put ⟨-1,-1,d'.line,0,true,d'.data⟩).1,{ d' with step:=6,state:=2,head:=me,data:=[] })).2 (if d'.next≠-1 then(ca,{ d' with step:=3 }) else((ca.put ⟨-1,-1,d'.line,0,true,d'.data⟩).1,{ d' with step:=6,state:=2,head:=me,data:=[] })).1:=by
  intro d' l1 l2 l3;by_cases h:d'.next≠-1
  ·rw [if_pos h];exact⟨I,by rw [e1];exact l1,by rw [e2];exact l2,.inr (by simp only [l3];exact hd),λ_ _=> by simp only [l3];exact hd,.inl (zbK _),.inr ⟨by simp,e3,λ_=> .inl ⟨by simp,rfl⟩⟩⟩
  ·rw [if_neg h];obtain⟨u,hu⟩:=JQ I.lines (e:=⟨-1,-1,d'.line,0,true,d'.data⟩) (by simp only [l1];exact h0) (by simp only [l1];exact hf);have hu':(ca.put ⟨-1,-1,d'.line,0,true,d'.data⟩).1.find d0.line=some ⟨-1,-1,d'.line,u,true,d'.data⟩:=by
    rw [e1,<-l1];exact hu
   exact⟨I.put (by simp only [l1];exact h0) (by simp only [l1];exact h1) (by simp only [l3];exact hd),by rw [e1];exact l1,by rw [e2];exact l2,.inl rfl,λ_ h=> by simp at h,.inr ⟨by rw [e2,hk];decide,rfl,EK _ _⟩,.inr ⟨by simp,e3,λ_=> .inr ⟨rfl,_,hu',λ_=> rfl⟩⟩⟩
 unfold bD;cases ca.find d.line with
 | none=> exact key d rfl rfl rfl
 | some own=>
  by_cases h:d.next=me
  ·simp only [if_pos h];exact key { d with next:=own.fwd } rfl rfl rfl
  ·simp only [if_neg h];exact key d rfl rfl rfl
theorem Tn {c:Cfg}{n:Node}{me:Int}(I:Bo c n.cache)(D:adk c n)(hs0:n.deal.step≠0){p:Pkt}(Q:vI c p){ca:Cache}{d:bF}(h:vT n.deal me n.cache p=(ca,d,true)):EL c n.deal n.cache d ca:=by
 have hf:n.deal.fits p=true:=by
  cases e:n.deal.fits p with
  | true=> rfl
  | false=> rw [yF e] at h;simp [oD] at h
 have hpk:=Zd hf;have ao4:n.deal.step=1->lY c p.data:=λe=> Q.dat (.inl (by rw [hpk,e];rfl));have ao5:n.deal.step=2∨n.deal.step=3->lY c p.data:=λe=> Q.dat (.inr (by rcases e with e | e <;> rw [hpk,e] <;> rfl));have s6:n.deal.step=6->(n.cache,{ n.deal with step:=0 },true)=(ca,d,true)->EL c n.deal n.cache d ca:=λs e=> by
  simp only [zad,and_true] at e;obtain⟨rfl,rfl⟩:=e;exact⟨I,rfl,rfl,D.dat,λ_ h=> by simp at h,.inl (zbK _),.inl ⟨s,rfl,rfl⟩⟩
 unfold vT at h;by_cases k1:n.deal.kind=1
 ·rw [if_pos k1] at h;unfold bV at h;rw [if_neg (show¬(n.deal.kind≠1∨n.deal.fits p=false) by rw [hf];rintro(h | h) <;> first | omega | cases h)] at h;have W:=D.work (by omega);by_cases t1:n.deal.step=1
  ·rw [if_pos t1] at h;have W:=W (by omega);by_cases p0:p.state≠0
   ·rw [if_pos p0] at h;simp only [zad,and_true] at h;obtain⟨rfl,rfl⟩:=h;exact⟨I,rfl,rfl,.inr (ao4 t1),λh=> by simp only at h;omega,.inl (zbK _),.inr ⟨by simp,by omega,λ_=> .inl ⟨by simp,rfl⟩⟩⟩
   ·rw [if_neg p0] at h;simp only [zad,and_true] at h;obtain⟨rfl,rfl⟩:=h;obtain⟨u,hu⟩:=JQ I.lines (e:=⟨-1,-1,n.deal.line,0,false,p.data⟩) D.lo W.full;exact⟨I.put D.lo D.hi (ao4 t1),rfl,rfl,.inl rfl,λ_ h=> by simp at h,.inr ⟨by omega,rfl,EK _ _⟩,.inr ⟨by simp,by omega,λ_=> .inr ⟨rfl,_,hu,λh=> by omega⟩⟩⟩
  rw [if_neg t1] at h;by_cases t2:n.deal.step=2
  ·rw [if_pos t2] at h;have W:=W (by omega);simp only [zad,and_true] at h;obtain⟨rfl,rfl⟩:=h;obtain⟨u,hu⟩:=JQ I.lines (e:=⟨n.deal.head,-1,n.deal.line,0,false,p.data⟩) D.lo W.full;refine⟨I.put D.lo D.hi (ao5 (.inl t2)),rfl,rfl,?_,λh=> by simp only at h;omega,.inr ⟨by omega,rfl,EK _ _⟩,.inr ⟨by simp,by omega,λ_=> .inr ⟨rfl,_,hu,λh=> by omega⟩⟩⟩;simp only;split
   ·exact .inr (ao5 (.inl t2))
   ·exact .inl rfl
  rw [if_neg t2] at h;by_cases t6:n.deal.step=6
  ·rw [if_pos t6] at h;exact s6 t6 h
  ·rw [if_neg t6] at h;simp [oD] at h
 rw [if_neg k1] at h;by_cases k2:n.deal.kind=2
 ·rw [if_pos k2] at h;unfold bW at h;rw [if_neg (show¬(n.deal.kind≠2∨n.deal.fits p=false) by rw [hf];rintro(h | h) <;> first | omega | cases h)] at h;have W:=D.work (by omega);by_cases t1:n.deal.step=1
  ·rw [if_pos t1] at h;have W:=W (by omega);simp only [zad,and_true] at h;obtain⟨rfl,rfl⟩:=h;have key:∀dt,lY c dt->EL c n.deal n.cache (bD { n.deal with state:=p.state,head:=p.ptr,told:=p.ptr,data:=dt,next:=p.ptr } me n.cache).2 (bD { n.deal with state:=p.state,head:=p.ptr,told:=p.ptr,data:=dt,next:=p.ptr } me n.cache).1:=λdt hdt=>
    Tj (d:={ n.deal with state:=p.state,head:=p.ptr,told:=p.ptr,data:=dt,next:=p.ptr }) I D.lo D.hi W.full hdt k2 (show n.deal.step≠6 by omega) rfl rfl (by omega)
   cases hfd:n.cache.find n.deal.line with
   | none=> exact key _ (ao4 t1)
   | some e=> exact key _ (I.ent e ((gG I.lines).1 hfd).1).dat
  rw [if_neg t1] at h;by_cases t3:n.deal.step=3
  ·rw [if_pos t3] at h;have W:=W (by omega);simp only [zad,and_true] at h;obtain⟨rfl,rfl⟩:=h;have key:∀dt,lY c dt->EL c n.deal n.cache (bD { n.deal with data:=dt,next:=p.ptr } me n.cache).2 (bD { n.deal with data:=dt,next:=p.ptr } me n.cache).1:=λdt hdt=>
    Tj (d:={ n.deal with data:=dt,next:=p.ptr }) I D.lo D.hi W.full hdt k2 (show n.deal.step≠6 by omega) rfl rfl (by omega)
   cases hfd:n.cache.find n.deal.line with
   | none=> exact key _ (ao5 (.inr t3))
   | some e=> exact key _ (D.afq k2 t3)
  rw [if_neg t3] at h;by_cases t6:n.deal.step=6
  ·rw [if_pos t6] at h;exact s6 t6 h
  ·rw [if_neg t6] at h;simp [oD] at h
 rw [if_neg k2] at h;have k3:n.deal.kind=3:=by have:=D.kind;omega
 rw [if_pos k3] at h;unfold dn at h;rw [if_neg (show¬(n.deal.kind≠3∨n.deal.fits p=false) by rw [hf];rintro(h | h) <;> first | omega | cases h)] at h;have no3:∀{P:Prop},n.deal.kind≠3->P:=λh=> absurd k3 h;by_cases t1:n.deal.step=1
 ·rw [if_pos t1] at h;cases hfd:n.cache.find n.deal.line with
  | none=>
   simp only [hfd,zad,and_true] at h;obtain⟨rfl,rfl⟩:=h;exact⟨I,rfl,rfl,.inl rfl,λh=> by simp only at h;omega,.inl (zbK _),.inr ⟨by simp,by omega,no3⟩⟩
  | some e=>
   simp only [hfd] at h;have E:=I.ent e ((gG I.lines).1 hfd).1;by_cases b1:e.back=-1/\e.fwd=-1
   ·simp only [if_pos b1,zad,and_true] at h;obtain⟨rfl,rfl⟩:=h;refine⟨I.drop _,rfl,rfl,?_,λh=> by simp only at h;omega,.inl (by rw [zT];exact zbK _),.inr ⟨by simp,by omega,no3⟩⟩;simp only;split
    ·exact .inr E.dat
    ·exact .inl rfl
   ·simp only [if_neg b1] at h;by_cases b2:e.back=-1
    ·simp only [if_pos b2,zad,and_true] at h;obtain⟨rfl,rfl⟩:=h;exact⟨I,rfl,rfl,.inl rfl,λh=> by simp only at h;omega,.inl (zbK _),.inr ⟨by simp,by omega,no3⟩⟩
    ·simp only [if_neg b2,zad,and_true] at h;obtain⟨rfl,rfl⟩:=h;exact⟨I,rfl,rfl,.inl rfl,λh=> by simp only at h;omega,.inl (zbK _),.inr ⟨by simp,by omega,no3⟩⟩
 rw [if_neg t1] at h;have out:∀hd,fU n.deal n.cache hd=(ca,d,true)->n.deal.step≠6->EL c n.deal n.cache d ca:=λhd e hs=> by
  simp only [fU,zad,and_true] at e;obtain⟨rfl,rfl⟩:=e;exact⟨I.drop _,rfl,rfl,.inl rfl,λh=> by simp only at h;omega,.inl (by rw [zT];exact zbK _),.inr ⟨by simp,hs,no3⟩⟩
 by_cases t4:n.deal.step=4
 ·rw [if_pos t4] at h;split at h
  ·exact out _ h (by omega)
  ·simp only [zad,and_true] at h;obtain⟨rfl,rfl⟩:=h;exact⟨I,rfl,rfl,D.dat,λh=> by simp only at h;omega,.inl (zbK _),.inr ⟨by simp,by omega,no3⟩⟩
 rw [if_neg t4] at h;by_cases t5:n.deal.step=5
 ·rw [if_pos t5] at h;split at h
  ·exact out _ h (by omega)
  ·exact out _ h (by omega)
 rw [if_neg t5] at h;by_cases t6:n.deal.step=6
 ·rw [if_pos t6] at h;exact s6 t6 h
 ·rw [if_neg t6] at h;simp [oD] at h
structure Oj where
 a:Nat->Nat
 f:Nat
 P:Nat->Nat->Nat
 t:Nat
def aeN(S:Oj)(k:Nat)(q:Nat):Prop:=(∃i,i < 6/\q=S.a i)∨JY S.P k q∨q=S.t
structure NW(g:Store)(S:Oj)(c:Cfg)(me:Int)(w:NFT):Prop where
 node:qA g S.a c me w.1
 fab:fH g S.f S.P c w.2.1
 tr:g S.t=some (kJ w.2.2)
 PX:PW S.P w.2.1.l.length
 tf:S.t≠S.f
theorem iL {g:Store}{x y:Nat}{A B:List Cell}(h:g x=some A)(h':g y=some B)(hl:A.length≠B.length):x≠y:=λe=> by
 subst e;rw [h] at h';exact hl (by rw [za3 h'])
theorem amh {g:Store}{x y:Nat}{A B:List Cell}(h:g x=some A)(h':g y=some B)(hl:A[1]?≠B[1]?):x≠y:=λe=> by
 subst e;rw [h] at h';exact hl (by rw [za3 h'])
section
variable {b:Nat}{K K':aj}{g g':Store}{ls:Lcl}{S:Oj}{c:Cfg}{me:Int}{w:NFT}
theorem fE {a:Nat->Nat}{d:bF}{num:Int}:(uw a c me d num).length=22:=by simp [uw,Jw,Cfg.av,bF.av]
theorem kY {l:List Evn}:(kJ l).length=1:=rfl
theorem jo {P:Nat->Nat->Nat}{n:Nat}:(abl P n).length=1:=rfl
theorem dX {ca:Cache}:(bC ca).length=4:=rfl
theorem gI {p:Proc}:(nX p).length=3:=rfl
theorem dY {t:Turns}:(fZ t).length=2:=rfl
theorem iZ {l:List Pkt}{r:Int}:(kU l r).length=2:=rfl
theorem jq {r:Rows}:(AL c r).length=9:=by simp [AL,Cfg.av]
theorem iC {d t:Nat}:(AO d t c me).length=11:=by simp [AO,Cfg.av]
theorem NW.Ze(N:NW g S c me w):(∀i,i < 6->S.a i≠S.t):=λi hi=> by
 obtain⟨h0,h1,h2,h3,h4,h5⟩:=N.node
 match i,hi with
 | 0,_=> exact iL h0 N.tr (by simp only [fE,kY];decide)
 | 1,_=> exact iL h1 N.tr (by simp only [kY,dX];decide)
 | 2,_=> exact iL h2 N.tr (by simp only [kY,gI];decide)
 | 3,_=> exact iL h3 N.tr (by simp only [kY,iC];decide)
 | 4,_=> exact iL h4 N.tr (by simp only [kY,jq];decide)
 | 5,_=> exact iL h5 N.tr (by simp only [kY,dY];decide)
theorem NW.ao6(N:NW g S c me w):(∀i,i < 6->S.a i≠S.f):=λi hi=> by
 obtain⟨h0,h1,h2,h3,h4,h5⟩:=N.node;have h:=N.fab.1
 match i,hi with
 | 0,_=> exact iL h0 h (by simp only [fE,jo];decide)
 | 1,_=> exact iL h1 h (by simp only [jo,dX];decide)
 | 2,_=> exact iL h2 h (by simp only [jo,gI];decide)
 | 3,_=> exact iL h3 h (by simp only [jo,iC];decide)
 | 4,_=> exact iL h4 h (by simp only [jo,jq];decide)
 | 5,_=> exact iL h5 h (by simp only [jo,dY];decide)
theorem NW.port {q:Nat}(N:NW g S c me w)(h:JY S.P w.2.1.l.length q):∃l r,g q=some (kU l r):=by
 obtain⟨i,s,hi,hs,rfl⟩:=h;exact⟨_,_,eU (N.fab.port hi) hs⟩
theorem NW.U0(N:NW g S c me w){q:Nat}(h:JY S.P w.2.1.l.length q):(∀i,i < 6->S.a i≠q)/\S.t≠q/\S.f≠q:=by
 obtain⟨l,r,hg⟩:=N.port h;obtain⟨h0,h1,h2,h3,h4,h5⟩:=N.node;refine⟨λi hi=> ?_,iL N.tr hg (by simp only [kY,iZ];decide),iL N.fab.1 hg (by simp only [jo,iZ];decide)⟩
 match i,hi with
 | 0,_=> exact iL h0 hg (by simp only [fE,iZ];decide)
 | 1,_=> exact iL h1 hg (by simp only [dX,iZ];decide)
 | 2,_=> exact iL h2 hg (by simp only [gI,iZ];decide)
 | 3,_=> exact iL h3 hg (by simp only [iZ,iC];decide)
 | 4,_=> exact iL h4 hg (by simp only [iZ,jq];decide)
 | 5,_=> exact amh h5 hg (by simp [fZ,kU])
theorem fH.same {f:Nat}{P:Nat->Nat->Nat}{fab:Fab}(F:fH g f P c fab)(hf:g' f=g f)(hp:∀q,JY P fab.l.length q->g' q=g q):fH g' f P c fab:=
 ⟨by rw [hf];exact F.1,λi p hi=> (F.2.1 i p hi).ext λs hs=> hp _ ⟨i,s,(zaf.1 hi).1,hs,rfl⟩,F.2.2⟩
theorem NW.set(N:NW g S c me w){n:Node}(hn:qA g' S.a c me n)(h:∀q,(∀i,i < 6->q≠S.a i)->g' q=g q):NW g' S c me (n,w.2):=by
 refine⟨hn,N.fab.same (h _ λi hi=> (N.ao6 i hi).symm) (λq hq=> h _ λi hi=> ((N.U0 hq).1 i hi).symm),?_,N.PX,N.tf⟩;rw [h _ λi hi=> (N.Ze i hi).symm];exact N.tr
theorem Off.amQ {k:Nat}(h:∀q,(∀i,i < 6->q≠S.a i)->g' q=g q):Off (aeN S k) g g':=λq hq=> h q λi hi e=> hq (.inl ⟨i,hi,e⟩)
theorem zU {i:Nat}(hi:i < 6){cs:List Cell}:∀q,(∀i,i < 6->q≠S.a i)->upd g (S.a i) cs q=g q:=λq hq=> upd_ne (hq i hi)
theorem NW.cache(N:NW g S c me w)(ca:Cache):NW (upd g (S.a 1) (bC ca)) S c me ({ w.1 with cache:=ca },w.2):=by
 refine N.set ?_ (zU (by decide));have I:=N.node;obtain⟨h0,h1,h2,h3,h4,h5⟩:=N.node;have ne:∀i,i < 6->i≠1->S.a i≠S.a 1:=λi hi h e=> h (I.inj hi (by decide) e);exact⟨by rw [upd_ne (ne 0 (by decide) (by decide))];exact h0,upd_same,by rw [upd_ne (ne 2 (by decide) (by decide))];exact h2,by rw [upd_ne (ne 3 (by decide) (by decide))];exact h3,by rw [upd_ne (ne 4 (by decide) (by decide))];exact h4,by rw [upd_ne (ne 5 (by decide) (by decide))];exact h5⟩
theorem NW.proc(N:NW g S c me w)(p:Proc):NW (upd g (S.a 2) (nX p)) S c me ({ w.1 with proc:=p },w.2):=by
 refine N.set ?_ (zU (by decide));have I:=N.node;obtain⟨h0,h1,h2,h3,h4,h5⟩:=N.node;have ne:∀i,i < 6->i≠2->S.a i≠S.a 2:=λi hi h e=> h (I.inj hi (by decide) e);exact⟨by rw [upd_ne (ne 0 (by decide) (by decide))];exact h0,by rw [upd_ne (ne 1 (by decide) (by decide))];exact h1,upd_same,by rw [upd_ne (ne 3 (by decide) (by decide))];exact h3,by rw [upd_ne (ne 4 (by decide) (by decide))];exact h4,by rw [upd_ne (ne 5 (by decide) (by decide))];exact h5⟩
theorem NW.own(N:NW g S c me w)(d:bF)(num:Int):NW (upd g (S.a 0) (uw S.a c me d num)) S c me ({ w.1 with deal:=d,num:=num },w.2):=by
 refine N.set ?_ (zU (by decide));have I:=N.node;obtain⟨h0,h1,h2,h3,h4,h5⟩:=N.node;have ne:∀i,i < 6->i≠0->S.a i≠S.a 0:=λi hi h e=> h (I.inj hi (by decide) e);exact⟨upd_same,by rw [upd_ne (ne 1 (by decide) (by decide))];exact h1,by rw [upd_ne (ne 2 (by decide) (by decide))];exact h2,by rw [upd_ne (ne 3 (by decide) (by decide))];exact h3,by rw [upd_ne (ne 4 (by decide) (by decide))];exact h4,by rw [upd_ne (ne 5 (by decide) (by decide))];exact h5⟩
theorem NW.home(N:NW g S c me w)(h:Home):NW (jL g (S.a 4) (S.a 5) c h) S c me ({ w.1 with home:=h },w.2):=by
 have I:=N.node;obtain⟨h0,h1,h2,hh⟩:=N.node;refine N.set ?_ λq hq=> ?_
 ·have ne:∀i j,i < 6->j < 6->i≠j->S.a i≠S.a j:=λi j hi hj h e=> h (I.inj hi hj e);refine⟨?_,?_,?_,hh.agJ h⟩
  ·unfold jL;rw [upd_ne (ne 0 5 (by decide) (by decide) (by decide)),upd_ne (ne 0 4 (by decide) (by decide) (by decide))];exact h0
  ·unfold jL;rw [upd_ne (ne 1 5 (by decide) (by decide) (by decide)),upd_ne (ne 1 4 (by decide) (by decide) (by decide))];exact h1
  ·unfold jL;rw [upd_ne (ne 2 5 (by decide) (by decide) (by decide)),upd_ne (ne 2 4 (by decide) (by decide) (by decide))];exact h2
 ·unfold jL;rw [upd_ne (hq 5 (by decide)),upd_ne (hq 4 (by decide))]
theorem NW.trace(N:NW g S c me w)(l:List Evn):NW (upd g S.t (kJ l)) S c me (w.1,w.2.1,l):=by
 refine⟨N.node.ext λs hs=> upd_ne (N.Ze s hs),N.fab.same (upd_ne N.tf.symm) (λq hq=> upd_ne (N.U0 hq).2.1.symm),upd_same,N.PX,N.tf⟩
theorem NW.net(N:NW g S c me w){fab:Fab}(F:fH g' S.f S.P c fab)(hl:fab.l.length=w.2.1.l.length)(O:Off (JY S.P w.2.1.l.length) g g'):NW g' S c me (w.1,fab,w.2.2):=by
 have no:∀i,i < 6->¬JY S.P w.2.1.l.length (S.a i):=λi hi h=> (N.U0 h).1 i hi rfl;refine⟨N.node.ext λs hs=> O _ (no s hs),F,?_,by rw [hl];exact N.PX,N.tf⟩;rw [O _ λh=> (N.U0 h).2.1 rfl];exact N.tr
theorem NW.sub(N:NW g S c me w)(h:pO g g'):NW g' S c me w:=
 ⟨N.node.ext λs hs=> by obtain⟨l,hl⟩:=N.node.some hs;rw [hl,h _ _ hl],N.fab.sub h,h _ _ N.tr,N.PX,N.tf⟩
theorem Loc.sub(L:Loc b K g ls):pO g (lay g ls):=λq cs h=> L.obj h
theorem Loc.home(L:Loc b K g ls){d t:Nat}{cs cs':List Cell}(h4:g d=some cs)(h5:g t=some cs'){h:Home}(G:Good b K' (jL (lay g ls) d t c h)):Loc b K' (jL g d t c h) ls:=by
 have e4:=(L.at_ h4).2;have e5:=(L.at_ h5).2;unfold jL at G ⊢;refine⟨by rw [JK e5,JK e4];exact G,λr hr=> ?_⟩;rw [upd_ne (λe=> by subst e;exact hr e5),upd_ne (λe=> by subst e;exact hr e4)];exact L.free r hr
theorem Loc.net(L:Loc b K g ls){T:Nat->Prop}(hT:∀q,T q->g q≠none){g1:Store}(G:Good b K' g1)(O:Off T (lay g ls) g1):∃g',Loc b K' g' ls/\Off T g g'/\∀q,ls q=none->g' q=g1 q:=by
 let g':Store:=λq=> match ls q with
  | some _=> none
  | none=> g1 q
 have at1:∀q,ls q=none->g' q=g1 q:=λq h=> by simp only [g',h]
 have e:lay g' ls=g1:=by
  funext q
  cases h:ls q with
  | none=> simp only [lay,h];exact at1 q h
  | some xs=>
   have:¬T q:=λht=> hT q ht (L.free q (by rw [h];simp));rw [O q this];simp only [lay,h]
 refine⟨g',⟨by rw [e];exact G,λr hr=> ?_⟩,λq hq=> ?_,at1⟩
 ·simp only [g'];cases h:ls r with
  | none=> exact absurd h hr
  | some xs=> rfl
 ·cases h:ls q with
  | none=> rw [at1 q h,O q hq];simp only [lay,h]
  | some xs=>
   simp only [g',h];rw [L.free q (by rw [h];simp)]
end
theorem NW.agree {g g':Store}{S:Oj}{c:Cfg}{me:Int}{w:NFT}(N:NW g S c me w)(h:∀q,aeN S w.2.1.l.length q∨q=S.f->g' q=g q):NW g' S c me w:=
 ⟨N.node.ext λs hs'=> h _ (.inl (.inl ⟨s,hs',rfl⟩)),N.fab.same (h _ (.inr rfl)) λq hq=> h _ (.inl (.inr (.inl hq))),by rw [h _ (.inl (.inr (.inr rfl)))];exact N.tr,N.PX,N.tf⟩
theorem NW.here {g:Store}{S:Oj}{c:Cfg}{me:Int}{w:NFT}(N:NW g S c me w){q:Nat}(h:aeN S w.2.1.l.length q):g q≠none:=by
 rcases h with⟨i,hi,rfl⟩ | hp | rfl
 ·obtain⟨l,hl⟩:=N.node.some hi;rw [hl];simp
 ·obtain⟨l,r,hl⟩:=N.port hp;rw [hl];simp
 ·rw [N.tr];simp
def apH(b:Nat)(H:aj)(g:Store)(S:Oj)(c:Cfg)(me:Int)(k:Nat)(H':aj)(w':NFT):Prop:=
 ∃g',Good b H' g'/\NW g' S c me w'/\Off (aeN S k) g g'/\Step b H H'/\w'.2.1.l.length=k
structure Walk(b:Nat)(H:aj)(g0:Store)(S:Oj)(c:Cfg)(me:Int)(k:Nat)(K:aj)(g:Store)(ls:Lcl)(w:NFT):Prop where
 hb:H.base<=b
 loc:Loc b K g ls
 nw:NW g S c me w
 off:Off (aeN S k) g0 g
 step:Step b H K
 len:w.2.1.l.length=k
section
variable {b:Nat}{H:aj}{g0:Store}{S:Oj}{c:Cfg}{me:Int}{k:Nat}{K K':aj}{g:Store}{ls:Lcl}{w w':NFT}
theorem Walk.of {g:Store}(G:Good b H g)(hb:H.base<=b)(N:NW g S c me w):Walk b H g S c me w.2.1.l.length H g noL w:=⟨hb,Loc.of G,N,Off.refl _ _,Step.refl _ _,rfl⟩
theorem Walk.base(W:Walk b H g0 S c me k K g ls w):K.base<=b:=by rw [W.step.base];exact W.hb
theorem Walk.res(W:Walk b H g0 S c me k K g ls w):apH b H g0 S c me k K w:=⟨g,W.loc.out,W.nw,W.off,W.step,W.len⟩
theorem Walk.newL(W:Walk b H g0 S c me k K g ls w){ty:TypeId}{xs:List AV}{r:Nat}(hc:xs.all AV.aH=true)(hr:r=K.next)(ht:ty < eH:=by decide):Walk b H g0 S c me k (K.new (.blk 0 ty xs)) g (fO ls r xs) w:=
 ⟨W.hb,W.loc.newL hc hr ht,W.nw,W.off,W.step.trans (Step.new _ W.loc.good.1),W.len⟩
theorem Walk.whole(W:Walk b H g0 S c me k K g ls w){r n:Nat}{xs vs:List AV}(h:ls r=some xs)(hx:xs.length=n)(hn:vs.length=n)(hp:0 < n)(hv:vs.all AV.aH=true):
  ∃K',Proofs.YthmoogcacpmjiaaGreat.st n (.ref r 0 0) (.agg vs) K=some (aO,K')/\Proofs.YthmoogcacpmjiaaGreat.lda n (.ref r 0 0) K'=some (.agg vs,K')/\Walk b H g0 S c me k K' g (fO ls r vs) w:=by
 obtain⟨K',h1,h2,h3,h4⟩:=W.loc.whole W.base h hx hn hp hv;exact⟨K',h1,h2,W.hb,h3,W.nw,W.off,W.step.trans h4,W.len⟩
theorem Walk.same(W:Walk b H g0 S c me k K g ls w)(G:Good b K' (lay g ls))(s:Step b K K'):Walk b H g0 S c me k K' g ls w:=⟨W.hb,⟨G,W.loc.free⟩,W.nw,W.off,W.step.trans s,W.len⟩
theorem Walk.cache(W:Walk b H g0 S c me k K g ls w){ca:Cache}(G:Good b K' (upd (lay g ls) (S.a 1) (bC ca)))(s:Step b K K'):Walk b H g0 S c me k K' (upd g (S.a 1) (bC ca)) ls ({ w.1 with cache:=ca },w.2):=
 ⟨W.hb,W.loc.call W.nw.node.2.1 G,W.nw.cache ca,W.off.trans (Off.amQ (zU (by decide))),W.step.trans s,W.len⟩
theorem Walk.proc(W:Walk b H g0 S c me k K g ls w){p:Proc}(G:Good b K' (upd (lay g ls) (S.a 2) (nX p)))(s:Step b K K'):Walk b H g0 S c me k K' (upd g (S.a 2) (nX p)) ls ({ w.1 with proc:=p },w.2):=
 ⟨W.hb,W.loc.call W.nw.node.2.2.1 G,W.nw.proc p,W.off.trans (Off.amQ (zU (by decide))),W.step.trans s,W.len⟩
theorem Walk.own(W:Walk b H g0 S c me k K g ls w){d:bF}{num:Int}(G:Good b K' (upd (lay g ls) (S.a 0) (uw S.a c me d num)))(s:Step b K K'):Walk b H g0 S c me k K' (upd g (S.a 0) (uw S.a c me d num)) ls ({ w.1 with deal:=d,num:=num },w.2):=
 ⟨W.hb,W.loc.call W.nw.node.1 G,W.nw.own d num,W.off.trans (Off.amQ (zU (by decide))),W.step.trans s,W.len⟩
theorem Walk.home(W:Walk b H g0 S c me k K g ls w){h:Home}(G:Good b K' (jL (lay g ls) (S.a 4) (S.a 5) c h))(s:Step b K K'):Walk b H g0 S c me k K' (jL g (S.a 4) (S.a 5) c h) ls ({ w.1 with home:=h },w.2):=by
 obtain⟨h0,h1,h2⟩:=W.nw.node.2.2.2;refine⟨W.hb,W.loc.home h1 h2 G,W.nw.home h,W.off.trans (Off.amQ λq hq=> ?_),W.step.trans s,W.len⟩;unfold jL;rw [upd_ne (hq 5 (by decide)),upd_ne (hq 4 (by decide))]
theorem Walk.trace(W:Walk b H g0 S c me k K g ls w){l:List Evn}(G:Good b K' (upd (lay g ls) S.t (kJ l)))(s:Step b K K'):Walk b H g0 S c me k K' (upd g S.t (kJ l)) ls (w.1,w.2.1,l):=
 ⟨W.hb,W.loc.call W.nw.tr G,W.nw.trace l,W.off.trans (Off.upd (.inr (.inr rfl))),W.step.trans s,W.len⟩
theorem Walk.NP(W:Walk b H g0 S c me k K g ls w):NW (lay g ls) S c me w:=W.nw.sub W.loc.sub
theorem Walk.net(W:Walk b H g0 S c me k K g ls w){g1:Store}{fab:Fab}(G:Good b K' g1)(F:fH g1 S.f S.P c fab)(hl:fab.l.length=w.2.1.l.length)(O:Off (JY S.P w.2.1.l.length) (lay g ls) g1)(s:Step b K K'):∃g',Walk b H g0 S c me k K' g' ls (w.1,fab,w.2.2):=by
 obtain⟨g',L,O',h⟩:=W.loc.net (T:=JY S.P w.2.1.l.length) (λq hq=> by obtain⟨l,r,e⟩:=W.nw.port hq;rw [e];simp) G O;have no:∀{q cs},g q=some cs->ls q=none:=λe=> (W.loc.at_ e).2;have F':fH g' S.f S.P c fab:=F.same (h _ (no W.nw.fab.1)) λq hq=> by
  rw [hl] at hq;obtain⟨l,r,e⟩:=W.nw.port hq;exact h _ (no e)
 refine⟨g',W.hb,L,W.nw.net F' hl O',W.off.trans (O'.mono λq hq=> .inr (.inl (by rw [<-W.len];exact hq))),W.step.trans s,by rw [<-W.len];exact hl⟩
theorem Walk.app(W:Walk b H g0 S c me k K g ls w)(h:apH b K (lay g ls) S c me k K' w'):∃g',Walk b H g0 S c me k K' g' ls w':=by
 obtain⟨g1,G,N,O,s,hl⟩:=h;obtain⟨g',L,O',h⟩:=W.loc.net (T:=aeN S k) (λq hq=> W.nw.here (by rw [W.len];exact hq)) G O;have no:∀q,g q≠none->ls q=none:=λq hq=> by
  cases e:ls q with
  | none=> rfl
  | some xs=> exact absurd (W.loc.free q (by rw [e];simp)) hq
 refine⟨g',W.hb,L,N.agree λq hq=> h q (no q ?_),W.off.trans O',W.step.trans s,hl⟩;rcases hq with hq | rfl
 ·exact W.nw.here (by rw [W.len,<-hl];exact hq)
 ·rw [W.nw.fab.1];simp
end
section
variable {b:Nat}{H:aj}{g0:Store}{S:Oj}{c:Cfg}{me:Int}{k:Nat}{K K':aj}{g:Store}{ls:Lcl}{w w':NFT}
structure PSz(p:Proc):Prop where
 ops:p.ops.length < 1000
 vals:p.values.length<=p.ops.length
theorem Walk.ldN(W:Walk b H g0 S c me k K g ls w){i:Nat}{v:AV}(hi:(Jw S.a c me w.1.deal w.1.num)[i]?=some v):ld (.ref (S.a 0) 0 i) K=some (v,K):=
 W.loc.good.load (W.loc.obj W.nw.node.1) (i:=i) (x:=v) (by rw [uw,zaB,hi];rfl)
theorem Walk.ami(W:Walk b H g0 S c me k K g ls w){i n:Nat}{ys:List AV}(hi:((Jw S.a c me w.1.deal w.1.num).drop i).take n=ys)(hn:ys.length=n)(hp:0 < n):lda n (.ref (S.a 0) 0 i) K=some (.agg ys,K):=
 W.loc.good.loads (W.loc.obj W.nw.node.1) (i:=i) (n:=n) (xs:=ys) (by rw [uw,<-hi,List.map_take,List.map_drop]) hn hp
theorem Walk.cur(W:Walk b H g0 S c me k K g ls w)(hp:PSz w.1.proc):∃K',cl 102 [.ref (S.a 2) 0 0] K=some (.tup [.agg w.1.proc.op.av,I w.1.proc.idx,B w.1.proc.cur.isSome],K')/\Walk b H g0 S c me k K' g ls w:=by
 obtain⟨K',h1,h2,h3⟩:=agT W.loc.good W.base (W.loc.obj W.nw.node.2.2.1) hp.ops (by have:=hp.vals;have:=hp.ops;omega) hp.vals;exact⟨K',h1,W.same h2 h3⟩
theorem Walk.pend(W:Walk b H g0 S c me k K g ls w)(hp:PSz w.1.proc)(v:Int):∃r K' g',cl 154 [.ref (S.a 2) 0 0,I v] K=some (r,K')/\Walk b H g0 S c me k K' g' ls ({ w.1 with proc:=w.1.proc.ZL v },w.2):=by
 obtain⟨r,K',h1,h2,h3⟩:=agS W.loc.good W.base (W.loc.obj W.nw.node.2.2.1) (by have:=hp.vals;have:=hp.ops;omega) v;exact⟨r,K',_,h1,W.proc h2 h3⟩
theorem Walk.tend(W:Walk b H g0 S c me k K g ls w)(hl:w.2.2.length < 1000000)(n i v:Int):∃K' g',cl 155 [.ref S.t 0 0,I n,I i,I v] K=some (.tup [],K')/\Walk b H g0 S c me k K' g' ls (w.1,w.2.1,w.2.2++[⟨n,i,true,v⟩]):=by
 obtain⟨K',h1,h2,h3⟩:=abO W.loc.good W.base (W.loc.obj W.nw.tr) hl n i v;exact⟨K',_,h1,W.trace h2 h3⟩
theorem Walk.amj(W:Walk b H g0 S c me k K g ls w)(hl:w.2.2.length < 1000000)(n i:Int):∃K' g',cl 113 [.ref S.t 0 0,I n,I i] K=some (.tup [],K')/\Walk b H g0 S c me k K' g' ls (w.1,w.2.1,w.2.2++[⟨n,i,false,0⟩]):=by
 obtain⟨K',h1,h2,h3⟩:=UW W.loc.good W.base (W.loc.obj W.nw.tr) hl n i;exact⟨K',_,h1,W.trace h2 h3⟩
theorem Walk.aqs(W:Walk b H g0 S c me k K g ls w)(C:COk w.1.cache)(e:Ent){x:AV}(hel:e.data.length < 1000000000)(hx:jU K x e.data):∃K' g',cl 157 [.ref (S.a 1) 0 0,.agg (e.avx x)] K=some (I (w.1.cache.put e).2,K')/\Walk b H g0 S c me k K' g' ls ({ w.1 with cache:=(w.1.cache.put e).1 },w.2):=by
 obtain⟨K',h1,h2,h3⟩:=SX W.loc.good W.base (W.loc.obj W.nw.node.2.1) C.len C.sets C.clk e hel hx;exact⟨K',_,h1,W.cache h2 h3⟩
theorem Walk.find(W:Walk b H g0 S c me k K g ls w)(C:COk w.1.cache)(line:Int):cl 37 [.ref (S.a 1) 0 0,I line] K=some (mg (w.1.cache.find line),K):=
 oq W.loc.good (W.loc.obj W.nw.node.2.1) C.len C.dat line
theorem Walk.send(W:Walk b H g0 S c me k K g ls w)(F:FOk c w.2.1)(p:Pkt)(hl:p.data.length < 1000000000):∃K' g',cl 109 [.ref S.f 0 0,.agg p.av] K=some (I (w.2.1.send p).2,K')/\Walk b H g0 S c me k K' g' ls (w.1,(w.2.1.send p).1,w.2.2):=by
 obtain⟨K',g1,h1,h2,h3,h4,h5⟩:=agL W.loc.good W.base W.NP.fab W.nw.PX F p hl;have hlen:(w.2.1.send p).1.l.length=w.2.1.l.length:=by
  unfold Fab.send;split
  ·rfl
  ·split
   ·rfl
   ·simp [Fab.put]
 obtain⟨g',W'⟩:=W.net h2 h3 hlen h4 h5;exact⟨K',g',h1,W'⟩
theorem Zf(W:Walk b H g0 S c me k K g ls w)(hp:PSz w.1.proc)(hl:w.2.2.length < 1000000)(v:Int):
  ∃K' g',cl 103 [.ref (S.a 0) 0 0,.ref S.t 0 0,I v] K=some (.tup [],K')/\Walk b H g0 S c me k K' g' ls ((w.1.done me w.2.2 v).1,w.2.1,(w.1.done me w.2.2 v).2):=by
 have G:=W.loc.good;have W0:=Walk.of G W.base W.NP;have l1:=W0.ldN (i:=1) (v:=.ref (S.a 2) 0 0) rfl;obtain⟨K1,a1,W1⟩:=W0.cur hp;have W2:=W1.newL (ty:=86) (xs:=[zI,zI,zI]) (r:=K1.next) rfl rfl;obtain⟨K3,b1,b2,W3⟩:=W2.whole ak (n:=3) (vs:=w.1.proc.op.av) rfl (dw _) (by decide) (lC _);have l3:=W3.ldN (i:=1) (v:=.ref (S.a 2) 0 0) rfl;obtain⟨r,K4,g4,c1,W4⟩:=W3.pend hp v;have l4:=W4.ldN (i:=10) (v:=I me) rfl;obtain⟨K5,g5,d1,W5⟩:=W4.tend hl me w.1.proc.idx v;obtain⟨g',W'⟩:=W.app (K':=K5) (w':=((w.1.done me w.2.2 v).1,w.2.1,(w.1.done me w.2.2 v).2)) (by
  have:=W5.res;rw [W.len] at this;exact this)
 refine⟨K5,g',aN rfl rfl (ajT _ _ _ _ _ ?_),W'⟩;simp -implicitDefEqProofs only [xq_,adt,l1,a1,b1,l3,c1,l4,d1]
theorem Qk(W:Walk b H g0 S c me k K g ls w)(hc:c.ok=true)(F:FOk c w.2.1)(hd:w.1.deal.data.length < 1000000000):
  ∃K' g',cl 105 [.ref (S.a 0) 0 0,.ref S.f 0 0] K=some (.tup [],K')/\Walk b H g0 S c me k K' g' ls (w.1,w.1.Pj c me w.2.1,w.2.2):=by
 have G:=W.loc.good;have W0:=Walk.of G W.base W.NP;have l1:=W0.ami (i:=12) (n:=9) (ys:=w.1.deal.av) rfl rfl (by decide);have l2:=W0.ldN (i:=10) (v:=I me) rfl;have l3:=W0.ami (i:=2) (n:=8) (ys:=c.av) rfl rfl (by decide);have l4:=W0.ldN (i:=13) (v:=I w.1.deal.line) rfl;have e1:=Em K.guard c hc w.1.deal.line;have e2:=ame K w.1.deal me (c.ig w.1.deal.line) hd;have hal:(w.1.deal.ask me (c.ig w.1.deal.line)).data.length < 1000000000:=by
  unfold bF.ask
  repeat' split
  all_goals first | exact hd | exact(show(0:Nat) < 1000000000 by decide)
 obtain⟨K5,g5,d1,W5⟩:=W0.send F (w.1.deal.ask me (c.ig w.1.deal.line)) hal;obtain⟨g',W'⟩:=W.app (K':=K5) (w':=(w.1,w.1.Pj c me w.2.1,w.2.2)) (by
  have:=W5.res;rw [W.len] at this;exact this)
 refine⟨K5,g',aN rfl rfl (ajW _ _ _ _ ?_),W'⟩;simp -implicitDefEqProofs only [Nat.reduceAdd,xq_,adu,l1,l2,l3,l4,e1,e2,d1]
end
theorem st_next {n:Nat}{x v r:AV}{H H':aj}(h:st n x v H=some (r,H')):H'.next=H.next:=by
 unfold st at h;split at h
 ·split at h
  ·split at h
   ·cases h;rfl
   ·cases h
  ·cases h
 ·cases h
theorem is0(H:aj)(e:Ent)(w:Int):cl0 73 [.agg e.av,I w] H=some (B (decide (0<=w/\w < e.data.length)),H.new (.blk 0 93 e.av)):=by
 refine fV (ajs _ _ _ _ ?_);have e1:=λH=> (jr H e.data).lnS;by_cases h0:0<=w
 ·simp -implicitDefEqProofs only [Nat.reduceLT,xq_,hq_,Xu,aB,Ent.av,h0,e1]
 ·simp -implicitDefEqProofs only [Nat.reduceLT,xq_,hq_,Xu,aB,Ent.av,h0,false_and]
theorem amk(H:aj)(l:List Int)(h:l≠[])(hl:l.length < 1000000000):cl0 46 [dat l] H=some (.sl (H.next+1) 0 0 1 l.length l.length false,(H.new (.blk 0 3 [])).new (.blk 0 (3+eH) (l.map I))):=by
 have h0:l.length≠0:=λe=> h (zan e);have e2:=nR (e:=3) (by_:=8) (r:=H.next) (H:=H.new (.blk 0 3 [])) nP (jr _ l) (uY l) h0 (by unfold most;omega) (by unfold most;omega);simp only [nNew] at e2;have e1:bi .eql 22 (dat l) zN=some (B false):=by rw [uo h];exact nJ Tryz.underlying22
 refine fV (PE _ _ _ ?_);simp -implicitDefEqProofs only [xq_,LY,e1,Dx,rG,e2,zba,zaT]
section
variable {b:Nat}{H:aj}{g0:Store}{S:Oj}{c:Cfg}{me:Int}{k:Nat}{K K':aj}{g:Store}{ls:Lcl}{w w':NFT}
theorem Walk.new(W:Walk b H g0 S c me k K g ls w)(o:dR):Walk b H g0 S c me k (K.new o) g ls w:=⟨W.hb,W.loc.new o,W.nw,W.off,W.step.trans (Step.new _ W.loc.good.1),W.len⟩
theorem JR {args:List AV}{r:AV × aj}(h:cl0 156 args K=some r):cl 156 args K=some r:=Dn (p:=cl0 156) rfl h
theorem Walk.write(W:Walk b H g0 S c me k K g ls w){r:Nat}{e:Ent}(h:ls r=some e.av)(he:e.data.length < 1000000000)(i v:Int):
  ∃res K' x,cl 156 [.ref r 0 0,I i,I v] K=some (res,K')/\jU K' x (e.write i v).data/\Walk b H g0 S c me k K' g (fO ls r ((e.write i v).avx x)) w:=by
 have same:fO ls r e.av=ls:=by
  funext x;simp only [fO];split
  ·rename_i hx;rw [hx,h]
  ·rfl
 have hr:r < K.next:=W.loc.good.lt (mY h)
 have l4:=W.loc.ld h (i:=4) (v:=B e.dirty) rfl;cases hd:e.dirty with
 | false=>
  have hm:e.write i v=e:=by unfold Ent.write;rw [if_neg (by simp [hd])]
  rw [hm];rw [hd] at l4;refine⟨B false,K,dat e.data,JR (fV (XV _ _ _ _ _ ?_)),nC _ _,by
   have:e.avx (dat e.data)=e.av:=rfl;rw [this,same];exact W⟩
  simp -implicitDefEqProofs only [xq_,RN,l4,zal]
 | true=>
  rw [hd] at l4;have la:=W.loc.lda h (i:=0) (n:=6) (ys:=e.av) rfl rfl (by decide);have e1:=is0 K e i;have W1:=W.new (.blk 0 93 e.av);by_cases hi:0<=i/\i < e.data.length
  ·have hm:e.write i v={ e with data:=e.data.set i.toNat v }:=by unfold Ent.write;rw [if_pos ⟨hd,hi⟩]
   have hne:e.data≠[]:=λh0=> by rw [h0] at hi;simp at hi;omega
   have e2:=amk (K.new (.blk 0 93 e.av)) e.data hne he;simp only [nNew] at e2;have l5:=W1.loc.ld h (i:=5) (v:=dat e.data) rfl;let y:AV:=.sl (K.next+1+1) 0 0 1 e.data.length e.data.length false;obtain⟨K3,u1,L3,s3⟩:=W.loc.st W.base h (i:=5) (v:=y) (by simp [Ent.av]) qj;have nx:=st_next u1;let o1:dR:=.blk 0 93 e.av;let o2:dR:=.blk 0 3 [];let o3:dR:=.blk 0 (3+eH) (e.data.map I);have u2:st 1 (.ref r 0 5) y (((K.new o1).new o2).new o3)=some (aO,((K3.new o1).new o2).new o3):=by
    rw [Ls (by rw [nNew,nNew];omega),Ls (by rw [nNew];omega),Ls hr,u1];rfl
   have L4:=((L3.new o1).new o2).new o3;have l5':=L4.ld ak (i:=5) (v:=y) (by simp [Ent.av]);have hn2:((K3.new o1).new o2).next=K.next+1+1:=by rw [nNew,nNew,nx]
   have hs:aG (((K3.new o1).new o2).new o3) y 1 e.data.length (e.data.map I):=by
    have:=jv (e:=3+eH) (m:=1) (n:=e.data.length) (l:=e.data.map I) (H:=(K3.new o1).new o2) (ex:=false) (by simp);rw [hn2] at this;exact this
   have ex:=hs.ix (k:=.i64) (i:=i) hi.1 hi.2;have ep:cZ y i.toNat=.ref (K.next+1+1) 0 i.toNat:=by simp [y,cZ]
   rw [ep] at ex;have u3:st 1 (.ref (K.next+1+1) 0 i.toNat) (I v) (((K3.new o1).new o2).new o3)=some (aO,((K3.new o1).new o2).new (.blk 0 (3+eH) ((e.data.set i.toNat v).map I))):=by
    rw [Lp hn2.symm];have hbK:((K3.new o1).new o2).base<=K.next+1+1:=by
     rw [bNew,bNew,s3.base];have:=W.base;have:=W.loc.good.1;omega
    have hset:setAt (e.data.map I) i.toNat (I v).cells=(e.data.set i.toNat v).map I:=by
     rw [show(I v).cells=[I v] from rfl];have hlt:i.toNat < (e.data.map I).length:=by simp;omega
     unfold setAt;rw [List.map_set,List.set_eq_take_append_cons_drop,if_pos hlt];simp
    rw [hset,if_pos ⟨hbK,rfl,rfl,by rw [show(I v).cells=[I v] from rfl];simp only [zaE,zak,zat];omega⟩]
   refine⟨B true,((K3.new o1).new o2).new (.blk 0 (3+eH) ((e.data.set i.toNat v).map I)),y,JR (fV (XV _ _ _ _ _ ?_)),?_,?_⟩;rotate_left
   ·rw [hm];have:=jv (e:=3+eH) (m:=1) (n:=(e.data.set i.toNat v).length) (l:=(e.data.set i.toNat v).map I) (H:=(K3.new o1).new o2) (ex:=false) (by simp);rw [hn2] at this;rw [zbN] at this;refine⟨?_,qj,λh0=> ?_⟩
    ·simp only [zbN];exact this
    ·have:=congrArg List.length h0;simp at this;exact absurd this hne
   ·rw [hm];have L5:=((L3.new o1).new o2).new (.blk 0 (3+eH) ((e.data.set i.toNat v).map I));have hx:(e.av.set 5 y)=({ e with data:=e.data.set i.toNat v }:Ent).avx y:=rfl;rw [hx] at L5;exact⟨W.hb,L5,W.nw,W.off,((((W.step.trans s3).trans (Step.new _ L3.good.1)).trans (Step.new _ (L3.new o1).good.1)).trans (Step.new _ ((L3.new o1).new o2).good.1)),W.len⟩
   ·simp only [o1,o2,o3,y] at u2 l5' ex u3;rw [decide_eq_true hi] at e1;simp -implicitDefEqProofs only [xq_,RN,l4,la,e1,zae,l5,e2,u2,l5',ex,u3];rfl
  ·have hm:e.write i v=e:=by unfold Ent.write;rw [if_neg (λh=> hi h.2)]
   rw [hm];refine⟨B false,_,dat e.data,JR (fV (XV _ _ _ _ _ ?_)),nC _ _,by
    have:e.avx (dat e.data)=e.av:=rfl;rw [this,same];exact W1⟩
   rw [decide_eq_false hi] at e1;simp -implicitDefEqProofs only [xq_,RN,l4,la,e1,zae,zal]
end
section
variable {b:Nat}{H:aj}{g0:Store}{S:Oj}{c:Cfg}{me:Int}{k:Nat}{K K':aj}{g:Store}{ls:Lcl}{w w':NFT}
theorem agU(W:Walk b H g0 S c me k K g ls w)(hp:PSz w.1.proc)(C:COk w.1.cache)(hl:w.2.2.length < 1000000){r4 r9:Nat}{o:Opn}{e:Ent}{x:AV}(h4:ls r4=some o.av)(h9:ls r9=some (e.avx x))(he:e.data.length < 1000000000)(hx:jU K x e.data)(was:Int):
  ∃K' g',rP cl (.ref (S.a 0) 0 0) (.ref S.t 0 0) (.ref r4 0 0) (.ref r9 0 0) (I was) K=some (.tup [],K')/\
   Walk b H g0 S c me k K' g' ls ((({ w.1 with cache:=(w.1.cache.put e).1 }:Node).done me w.2.2 (if o.kind=2 then 0 else was)).1,w.2.1,(({ w.1 with cache:=(w.1.cache.put e).1 }:Node).done me w.2.2 (if o.kind=2 then 0 else was)).2):=by
 have l1:=W.ldN (i:=0) (v:=.ref (S.a 1) 0 0) rfl;have l2:=W.loc.lda h9 (i:=0) (n:=6) (ys:=e.avx x) rfl rfl (by decide);obtain⟨K1,g1,a1,W1⟩:=W.aqs C e he hx;have l3:=W1.loc.ld h4 (i:=0) (v:=I o.kind) rfl;obtain⟨K2,g2,b1,W2⟩:=Zf W1 hp hl (if o.kind=2 then 0 else was);refine⟨K2,g2,?_,W2⟩;by_cases h2:o.kind=2
 ·rw [h2] at l3;rw [if_pos h2] at b1;simp -implicitDefEqProofs only [xq_,rP,Bq,l1,l2,a1,l3,b1]
 ·rw [if_neg h2] at b1;simp -implicitDefEqProofs only [xq_,rP,Bq,l1,l2,a1,l3,h2,b1]
theorem NQ(W:Walk b H g0 S c me k K g ls w)(hc:c.ok=true)(hp:PSz w.1.proc)(C:COk w.1.cache)(hl:w.2.2.length < 1000000):
  ∃K' g',cl 104 [.ref (S.a 0) 0 0,.ref S.t 0 0] K=some (.tup [],K')/\Walk b H g0 S c me k K' g' ls ((w.1.effect c me w.2.2).1,w.2.1,(w.1.effect c me w.2.2).2):=by
 have W0:=Walk.of W.loc.good W.base W.NP;obtain⟨o,ho⟩:∃o,w.1.proc.op=o:=⟨_,rfl⟩
 obtain⟨wi,hwi⟩:∃wi,c.iJ o.addr=wi:=⟨_,rfl⟩
 obtain⟨e,hee⟩:∃e,(w.1.cache.find (c.dh o.addr)).getD .zero=e:=⟨_,rfl⟩
 have hed:e.data.length < 1000000000:=by
  rw [<-hee];cases hf:w.1.cache.find (c.dh o.addr) with
  | none=> exact(show(0:Nat) < 1000000000 by decide)
  | some e'=> exact C.dat e' (za4 hf)
 have l1:=W0.ldN (i:=1) (v:=.ref (S.a 2) 0 0) rfl;obtain⟨K1,a1,W1⟩:=W0.cur hp;have W2:=W1.newL (ty:=86) (xs:=[zI,zI,zI]) (r:=K1.next) rfl rfl;obtain⟨K3,b1,b2,W3⟩:=W2.whole ak (n:=3) (vs:=o.av) rfl (dw _) (by decide) (lC _);have lc:=W3.ami (i:=2) (n:=8) (ys:=c.av) rfl rfl (by decide);have k3:fO (fO noL K1.next [zI,zI,zI]) K1.next o.av K1.next=some o.av:=ak
 have la:=W3.loc.ld k3 (i:=1) (v:=I o.addr) rfl;have el:=En K3 c hc o.addr;rw [hwi] at el;have l0:=W3.ldN (i:=0) (v:=.ref (S.a 1) 0 0) rfl;have ef:=W3.find C (c.dh o.addr);simp only [mg] at ef;rw [hee] at ef;have n3:K1.next < K3.next:=W3.loc.good.lt (mY (g:=lay g ls) k3)
 have W4:=W3.newL (ty:=93) (xs:=[zI,zI,zI,zI,zB,zN]) (r:=K3.next) rfl rfl;obtain⟨K5,c1,c2,W5⟩:=W4.whole ak (n:=6) (vs:=e.av) rfl rfl (by decide) (jK e);have ew:=agw K5 e wi;have k9:fO (fO (fO (fO noL K1.next [zI,zI,zI]) K1.next o.av) K3.next [zI,zI,zI,zI,zB,zN]) K3.next e.av K3.next=some e.av:=ak
 have k4:fO (fO (fO (fO noL K1.next [zI,zI,zI]) K1.next o.av) K3.next [zI,zI,zI,zI,zB,zN]) K3.next e.av K1.next=some o.av:=by rw [aA (by omega),aA (by omega)];exact k3
 have lk:=W5.loc.ld k4 (i:=0) (v:=I o.kind) rfl;have lv:=W5.loc.ld k4 (i:=2) (v:=I o.value) rfl;have hm:w.1.effect c me w.2.2=({ w.1 with cache:=(w.1.cache.put (iE e o wi)).1 }:Node).done me w.2.2 (if o.kind=2 then 0 else e.word wi):=by
  simp only [Node.effect,ho,hee,hwi]
 rw [ho] at a1
 -- a word is written,or none
 have key:∀{K6:aj} {ls6:Lcl} {x:AV},Walk b K (lay g ls) S c me w.2.1.l.length K6 (lay g ls) ls6 w->ls6 K1.next=some o.av->ls6 K3.next=some ((iE e o wi).avx x)->jU K6 x (iE e o wi).data->
   ∃K' g',rP cl (.ref (S.a 0) 0 0) (.ref S.t 0 0) (.ref K1.next 0 0) (.ref K3.next 0 0) (I (e.word wi)) K6=some (.tup [],K')/\Walk b H g0 S c me k K' g' ls ((w.1.effect c me w.2.2).1,w.2.1,(w.1.effect c me w.2.2).2):=by
  intro K6 ls6 x W6 h4 h9 hx;obtain⟨K7,g7,r1,W7⟩:=agU W6 hp C hl h4 h9 (by rw [(kG e o wi).2.2.2];exact hed) hx (e.word wi);rw [<-hm] at W7;obtain⟨g',W'⟩:=W.app (K':=K7) (w':=((w.1.effect c me w.2.2).1,w.2.1,(w.1.effect c me w.2.2).2)) (by
   have:=W7.res;rw [W.len] at this;exact this)
  exact⟨K7,g',r1,W'⟩
 by_cases h2:o.kind=2
 ·obtain⟨res,K6,x,d1,hx,W6⟩:=W5.write k9 hed wi o.value;have he:iE e o wi=e.write wi o.value:=by unfold iE;rw [if_pos h2]
  obtain⟨K7,g',r1,W'⟩:=key W6 (by rw [aA (by omega)];exact k4) (by rw [ak,he]) (by rw [he];exact hx);refine⟨K7,g',aN rfl rfl (XC _ _ _ _ ?_),W'⟩;rw [h2] at lk;simp -implicitDefEqProofs only [Int.reduceEq,xq_,Rn,l1,a1,b1,lc,la,el,l0,ef,c1,c2,ew,lk,lv,d1,r1]
 ·by_cases h3:o.kind=3
  ·obtain⟨res,K6,x,d1,hx,W6⟩:=W5.write k9 hed wi (w64 (e.word wi+o.value));have he:iE e o wi=e.write wi (w64 (e.word wi+o.value)):=by unfold iE;rw [if_neg h2,if_pos h3]
   obtain⟨K7,g',r1,W'⟩:=key W6 (by rw [aA (by omega)];exact k4) (by rw [ak,he]) (by rw [he];exact hx);refine⟨K7,g',aN rfl rfl (XC _ _ _ _ ?_),W'⟩;rw [h3] at lk;simp only [w64] at d1;simp -implicitDefEqProofs only [Int.reduceEq,xq_,Rn,l1,a1,b1,lc,la,el,l0,ef,c1,c2,ew,lk,lv,aZ,d1,r1]
  ·have he:iE e o wi=e:=by unfold iE;rw [if_neg h2,if_neg h3]
   obtain⟨K7,g',r1,W'⟩:=key (x:=dat e.data) W5 k4 (by rw [he];exact k9) (by rw [he];exact nC _ _);refine⟨K7,g',aN rfl rfl (XC _ _ _ _ ?_),W'⟩;simp -implicitDefEqProofs only [xq_,Rn,l1,a1,b1,lc,la,el,l0,ef,c1,c2,ew,lk,h2,h3,r1]
theorem abS(W:Walk b H g0 S c me k K g ls w)(C:COk w.1.cache)(hd:w.1.deal.data.length < 1000000000)(p:Pkt)(hpl:p.data.length < 1000000000):
  ∃K' g',cl 101 [.ref (S.a 0) 0 0,.agg p.av] K=some (qI (w.1.after me p),K')/\Walk b H g0 S c me k K' g' ls ({ w.1 with cache:=(w.1.after me p).1 },w.2):=by
 have W0:=Walk.of W.loc.good W.base W.NP;have W1:=W0.newL (ty:=70) (xs:=p.av) (r:=K.next) (aJ p) rfl;have W2:=W1.newL (ty:=57) (xs:=zD9) (r:=K.next+1) rfl (by rw [nNew]);have k3:fO (fO noL K.next p.av) (K.next+1) zD9 K.next=some p.av:=by rw [aA (by omega),ak]
 have lk:=W2.ldN (i:=12) (v:=I w.1.deal.kind) rfl;have ld:=W2.ami (i:=12) (n:=9) (ys:=w.1.deal.av) rfl rfl (by decide);have li:=W2.ldN (i:=10) (v:=I me) rfl;have lc:=W2.ldN (i:=0) (v:=.ref (S.a 1) 0 0) rfl;have lp:=W2.loc.lda k3 (i:=0) (n:=9) (ys:=p.av) rfl rfl (by decide);have hcache:=W2.loc.obj W2.nw.node.2.1
 -- the end
 have fin:∀{K3:aj} {r:Nxt},Good b K3 (upd (lay (lay g ls) (fO (fO noL K.next p.av) (K.next+1) zD9)) (S.a 1) (bC r.1))->Step b ((K.new (.blk 0 70 p.av)).new (.blk 0 57 zD9)) K3->w.1.after me p=r->
   ∃K' g',st 9 (.ref (K.next+1) 0 0) (.agg r.2.1.av) K3=some (aO,K')/\lda 9 (.ref (K.next+1) 0 0) K'=some (.agg r.2.1.av,K')/\Walk b H g0 S c me k K' g' ls ({ w.1 with cache:=(w.1.after me p).1 },w.2):=by
  intro K3 r G s hr;have W3:=W2.cache G s;obtain⟨K4,u1,u2,W4⟩:=W3.whole (r:=K.next+1) (xs:=zD9) ak (n:=9) (vs:=r.2.1.av) rfl rfl (by decide) (aP _);obtain⟨g',W'⟩:=W.app (K':=K4) (w':=({ w.1 with cache:=(w.1.after me p).1 },w.2)) (by
   have:=W4.res;rw [W.len] at this;rw [hr];exact this)
  exact⟨K4,g',u1,u2,W'⟩
 by_cases h1:w.1.deal.kind=1
 ·have hm:w.1.after me p=bV w.1.deal me w.1.cache p:=by unfold Node.after;rw [if_pos h1]
  obtain⟨K3,a1,a2,a3⟩:=Y9 W2.loc.good W2.base hcache C w.1.deal me p hpl;obtain⟨K4,g',u1,u2,W'⟩:=fin a2 a3 hm;refine⟨K4,g',aN rfl rfl (Rl _ _ _ _ ?_),W'⟩;rw [h1] at lk;rw [hm];simp only [qI] at a1 ⊢;simp -implicitDefEqProofs only [Nat.reduceLT,Int.reduceEq,xq_,L6,aB (aJ p),lk,ld,li,lc,lp,a1,u1,u2]
 ·by_cases h2:w.1.deal.kind=2
  ·have hm:w.1.after me p=bW w.1.deal me w.1.cache p:=by unfold Node.after;rw [if_neg h1,if_pos h2]
   obtain⟨K3,a1,a2,a3⟩:=abN W2.loc.good W2.base hcache C w.1.deal me p hd hpl;obtain⟨K4,g',u1,u2,W'⟩:=fin a2 a3 hm;refine⟨K4,g',aN rfl rfl (Rl _ _ _ _ ?_),W'⟩;rw [h2] at lk;rw [hm];simp only [qI] at a1 ⊢;simp -implicitDefEqProofs only [Nat.reduceLT,Int.reduceEq,xq_,L6,aB (aJ p),lk,ld,li,lc,lp,a1,u1,u2]
  ·by_cases h3:w.1.deal.kind=3
   ·have hm:w.1.after me p=dn w.1.deal w.1.cache p:=by unfold Node.after;rw [if_neg h1,if_neg h2,if_pos h3]
    obtain⟨K3,a1,a2,a3⟩:=agR W2.loc.good W2.base hcache C w.1.deal p me;obtain⟨K4,g',u1,u2,W'⟩:=fin a2 a3 hm;refine⟨K4,g',aN rfl rfl (Rl _ _ _ _ ?_),W'⟩;rw [h3] at lk;rw [hm];simp only [qI] at a1 ⊢;simp -implicitDefEqProofs only [Nat.reduceLT,Int.reduceEq,xq_,L6,aB (aJ p),lk,ld,li,lc,lp,a1,u1,u2]
   ·have hm:w.1.after me p=oD w.1.cache:=by unfold Node.after;rw [if_neg h1,if_neg h2,if_neg h3]
    obtain⟨K4,g',u1,u2,W'⟩:=fin (r:=oD w.1.cache) (by rw [show(oD w.1.cache).1=w.1.cache from rfl,dO hcache];exact W2.loc.good) (Step.refl _ _) hm;refine⟨K4,g',aN rfl rfl (Rl _ _ _ _ ?_),W'⟩;rw [hm];have ez:bd 57 []=some (.agg zD9):=by simp -implicitDefEqProofs only [xq_,Ug,gV,bZ]
    have hz:(oD w.1.cache).2.1.av=zD9:=jV;rw [hz] at u1 u2;simp only [qI,hz];simp -implicitDefEqProofs only [Nat.reduceLT,xq_,L6,aB (aJ p),lk,h1,h2,h3,ez,u1,u2];rfl
end
end
end Go.Proofs.YthmoogcacpmjiaaGreat
