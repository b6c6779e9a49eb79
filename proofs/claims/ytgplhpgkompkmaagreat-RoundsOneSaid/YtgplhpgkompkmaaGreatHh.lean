/-
  Own work: an interpreter over named blocks, its soundness, and what the functions of this seat compute (part 8 of 11).
  Conditions: those of the statement alone.
-/
import Derived.Shelf.SlGeneric
import Derived.Ground.SlgmProg
import Derived.Ground.GgzProg
import Derived.Shelf.SortM.SortNone
import Derived.Shelf.SortM.Plain
import Derived.Shelf.SlIterI.Nil
import Derived.Test.YtgplhpgkompkmaaGreatProg
import Derived.KernelRfl
import Derived.Test.YtgplhpgkompkmaaGreatHg
set_option linter.all false
set_option linter.unusedSectionVars false
set_option linter.unusedVariables false
set_option linter.unusedSimpArgs false
namespace Go.Proofs
open Go.Shelf
def Tryz.sortedA_ren:Go.Shelf.Ren:=⟨fun | 6=> 45 | 8=> 86 | 9=> 73 | 11=> 127 | 13=> 118 | 12=> 117 | 23=> 171 | 24=> 172 | 14=> 162 | 15=> 163 | 16=> 164 | 17=> 165 | 18=> 166 | 19=> 167 | 20=> 168 | 21=> 169 | 22=> 170 | 25=> 205 | 26=> 206 | 27=> 207 | 28=> 208 | 29=> 209 | 30=> 210 | 31=> 233 | n=> n,fun | 26=> 3 | 28=> 109 | 24=> 22 | 0=> 0 | 3=> 3 | 37=> 203 | 48=> 260 | 50=> 262 | 4=> 4 | 40=> 254 | 39=> 253 | 45=> 215 | 5=> 5 | 9=> 9 | 51=> 304 | 55=> 308 | 57=> 324 | 58=> 84 | 33=> 140 | n=> n,fun | n=> n⟩
theorem Tryz.sortedA:Go.Proofs.SlLaysZI.n6 Tryz.prog Tryz.sortedA_ren:={
 mixed:=by kernel_rfl
 f6:=⟨Tryz.f45.name,by decide,Tryz.func45.trans (congrArg some (by kernel_rfl))⟩
 f8:=⟨Tryz.f86.name,by decide,Tryz.func86.trans (congrArg some (by kernel_rfl))⟩
 f11:=⟨Tryz.f127.name,by decide,Tryz.func127.trans (congrArg some (by kernel_rfl))⟩
 t0:=Tryz.underlying0
 a0:=Tryz.isAgg0
 z0:=Tryz.sizeOf0
 v0:=Tryz.zeroValue0
 t24:=Tryz.underlying22
 a24:=Tryz.isAgg22
 z24:=Tryz.sizeOf22
 v24:=Tryz.zeroValue22
 t26:=Tryz.underlying3
 a26:=Tryz.isAgg3
 z26:=Tryz.sizeOf3
 v26:=Tryz.zeroValue3
 t28:=Tryz.underlying109
 a28:=Tryz.isAgg109
 z28:=Tryz.sizeOf109
 v28:=Tryz.zeroValue109
 i26:=by kernel_rfl }
def Tryz.keysA_ren:Go.Shelf.Ren:=⟨fun | 7=> 224 | 10=> 239 | n=> n,fun | 23=> 216 | 26=> 3 | 3=> 320 | 28=> 109 | 0=> 0 | 27=> 108 | 33=> 140 | 4=> 4 | n=> n,fun | n=> n⟩
theorem Tryz.keysA:Go.Proofs.SlLaysZI.n7 Tryz.prog Tryz.keysA_ren:={
 mixed:=by kernel_rfl
 f7:=⟨Tryz.f224.name,by decide,Tryz.func224.trans (congrArg some (by kernel_rfl))⟩
 f10:=⟨Tryz.f239.name,by decide,Tryz.func239.trans (congrArg some (by kernel_rfl))⟩
 t0:=Tryz.underlying0
 a0:=Tryz.isAgg0
 z0:=Tryz.sizeOf0
 v0:=Tryz.zeroValue0
 t4:=Tryz.underlying4
 a4:=Tryz.isAgg4
 z4:=Tryz.sizeOf4
 v4:=Tryz.zeroValue4
 t23:=Tryz.underlying216
 a23:=Tryz.isAgg216
 z23:=Tryz.sizeOf216
 v23:=Tryz.zeroValue216
 t26:=Tryz.underlying3
 a26:=Tryz.isAgg3
 z26:=Tryz.sizeOf3
 v26:=Tryz.zeroValue3
 t27:=Tryz.underlying108
 a27:=Tryz.isAgg108
 z27:=Tryz.sizeOf108
 v27:=Tryz.zeroValue108
 t28:=Tryz.underlying109
 a28:=Tryz.isAgg109
 z28:=Tryz.sizeOf109
 v28:=Tryz.zeroValue109
 t33:=Tryz.underlying140
 a33:=Tryz.isAgg140
 z33:=Tryz.sizeOf140
 v33:=Tryz.zeroValue140 }
def Tryz.sortA_ren:Go.Shelf.Ren:=⟨fun | 5=> 73 | 8=> 118 | 7=> 117 | 19=> 171 | 20=> 172 | 10=> 162 | 11=> 163 | 12=> 164 | 13=> 165 | 14=> 166 | 15=> 167 | 16=> 168 | 17=> 169 | 18=> 170 | 30=> 205 | 31=> 206 | 32=> 207 | 33=> 208 | 34=> 209 | 35=> 210 | 40=> 233 | n=> n,fun | 23=> 22 | 25=> 3 | 3=> 3 | 32=> 203 | 22=> 22 | 0=> 0 | 44=> 260 | 46=> 262 | 4=> 4 | 36=> 254 | 35=> 253 | 41=> 215 | 5=> 5 | 9=> 9 | 53=> 304 | 57=> 308 | 63=> 324 | 64=> 84 | n=> n,fun | n=> n⟩
theorem Tryz.sortA:Go.Proofs.SlLaysM.n5 Tryz.prog Tryz.sortA_ren:={
 mixed:=by kernel_rfl
 f5:=⟨Tryz.f73.name,by decide,Tryz.func73.trans (congrArg some (by kernel_rfl))⟩
 f7:=⟨Tryz.f117.name,by decide,Tryz.func117.trans (congrArg some (by kernel_rfl))⟩
 f8:=Tryz.func118.trans (congrArg some (by kernel_rfl))
 f10:=⟨Tryz.f162.name,by decide,Tryz.func162.trans (congrArg some (by kernel_rfl))⟩
 f11:=⟨Tryz.f163.name,by decide,Tryz.func163.trans (congrArg some (by kernel_rfl))⟩
 f12:=⟨Tryz.f164.name,by decide,Tryz.func164.trans (congrArg some (by kernel_rfl))⟩
 f13:=⟨Tryz.f165.name,by decide,Tryz.func165.trans (congrArg some (by kernel_rfl))⟩
 f14:=⟨Tryz.f166.name,by decide,Tryz.func166.trans (congrArg some (by kernel_rfl))⟩
 f15:=⟨Tryz.f167.name,by decide,Tryz.func167.trans (congrArg some (by kernel_rfl))⟩
 f16:=⟨Tryz.f168.name,by decide,Tryz.func168.trans (congrArg some (by kernel_rfl))⟩
 f17:=⟨Tryz.f169.name,by decide,Tryz.func169.trans (congrArg some (by kernel_rfl))⟩
 f18:=⟨Tryz.f170.name,by decide,Tryz.func170.trans (congrArg some (by kernel_rfl))⟩
 f19:=Tryz.func171.trans (congrArg some (by kernel_rfl))
 f20:=Tryz.func172.trans (congrArg some (by kernel_rfl))
 f30:=⟨Tryz.f205.name,by decide,Tryz.func205.trans (congrArg some (by kernel_rfl))⟩
 f31:=Tryz.func206.trans (congrArg some (by kernel_rfl))
 f32:=Tryz.func207.trans (congrArg some (by kernel_rfl))
 f33:=⟨Tryz.f208.name,by decide,Tryz.func208.trans (congrArg some (by kernel_rfl))⟩
 f34:=⟨Tryz.f209.name,by decide,Tryz.func209.trans (congrArg some (by kernel_rfl))⟩
 f35:=⟨Tryz.f210.name,by decide,Tryz.func210.trans (congrArg some (by kernel_rfl))⟩
 f40:=⟨Tryz.f233.name,by decide,Tryz.func233.trans (congrArg some (by kernel_rfl))⟩
 t0:=Tryz.underlying0
 a0:=Tryz.isAgg0
 z0:=Tryz.sizeOf0
 v0:=Tryz.zeroValue0
 t3:=Tryz.underlying3
 a3:=Tryz.isAgg3
 z3:=Tryz.sizeOf3
 v3:=Tryz.zeroValue3
 t4:=Tryz.underlying4
 a4:=Tryz.isAgg4
 z4:=Tryz.sizeOf4
 v4:=Tryz.zeroValue4
 t5:=Tryz.underlying5
 a5:=Tryz.isAgg5
 z5:=Tryz.sizeOf5
 v5:=Tryz.zeroValue5
 t9:=Tryz.underlying9
 a9:=Tryz.isAgg9
 z9:=Tryz.sizeOf9
 v9:=Tryz.zeroValue9
 t22:=Tryz.underlying22
 a22:=Tryz.isAgg22
 z22:=Tryz.sizeOf22
 v22:=Tryz.zeroValue22
 t23:=Tryz.underlying22
 a23:=Tryz.isAgg22
 z23:=Tryz.sizeOf22
 v23:=Tryz.zeroValue22
 t25:=Tryz.underlying3
 a25:=Tryz.isAgg3
 z25:=Tryz.sizeOf3
 v25:=Tryz.zeroValue3
 t32:=Tryz.underlying203
 a32:=Tryz.isAgg203
 z32:=Tryz.sizeOf203
 v32:=Tryz.zeroValue203
 t35:=Tryz.underlying253
 a35:=Tryz.isAgg253
 z35:=Tryz.sizeOf253
 v35:=Tryz.zeroValue253
 t36:=Tryz.underlying254
 a36:=Tryz.isAgg254
 z36:=Tryz.sizeOf254
 v36:=Tryz.zeroValue254
 t41:=Tryz.underlying215
 a41:=Tryz.isAgg215
 z41:=Tryz.sizeOf215
 v41:=Tryz.zeroValue215
 t44:=Tryz.underlying260
 a44:=Tryz.isAgg260
 z44:=Tryz.sizeOf260
 v44:=Tryz.zeroValue260
 t46:=Tryz.underlying262
 a46:=Tryz.isAgg262
 z46:=Tryz.sizeOf262
 v46:=Tryz.zeroValue262
 t53:=Tryz.underlying304
 a53:=Tryz.isAgg304
 z53:=Tryz.sizeOf304
 v53:=Tryz.zeroValue304
 t57:=Tryz.underlying308
 a57:=Tryz.isAgg308
 z57:=Tryz.sizeOf308
 v57:=Tryz.zeroValue308
 t63:=Tryz.underlying324
 a63:=Tryz.isAgg324
 z63:=Tryz.sizeOf324
 v63:=Tryz.zeroValue324
 t64:=Tryz.underlying84
 a64:=Tryz.isAgg84
 z64:=Tryz.sizeOf84
 v64:=Tryz.zeroValue84 }
end Go.Proofs
namespace Go.Proofs.YtgplhpgkompkmaaGreat
noncomputable section
open Go.RowKit Go.Maps Go.Sort Go.Shelf
theorem aaK(m:Nat):AnyZI.SortsIn Tryz.prog Tryz.sortedA_ren Fence.wide m:=
 ⟨λblk off cap ss W hH hblk hsz=> callsIn_wide.2 (AnyM.slices_Sort_int Tryz.sortA blk off cap ss W hH hblk hsz),
  λp cap W=> callsIn_wide.2 (AnyM.slices_Sort_int_none Tryz.sortA p cap W)⟩
abbrev aio:Value->Option (DataW Unit × List MemPlace):=λ_=> some (.lit (.bool true),[])
theorem ant {ρ:Ren}{H:ah}{w w':World}(R:Rel ρ H w)(hb:Below w.heap.size w w'){v:Value}{zs:List Int}{e:TypeId}(h0:zs≠[])(h:w'.ownsRow w.heap.size e 1 v zs.length (zs.map encZ)):
  RV ρ H.gen w' (.vs zs.length 1 (zs.map λn=> .s (.int .i64 n))) v:=by
 obtain⟨_,⟨rfl,h1⟩ | ⟨gb,cap,cur,rfl,h1,h2,h3,h4,h5,h6⟩⟩:=h
 ·exact absurd (zas h1) h0
 ·simp only [RV];refine⟨gb,0,cap,rfl,h3,by simp,(zbx.1 h2).1,Pg R h1,?_⟩;have key:∀(l:List Int) (o:Nat),(∀j,j < l.length->w'.cell? ⟨gb,o+j,none⟩=(l[j]?).map encZ)->RVc ρ H.gen w' (l.map λn=> .s (.int .i64 n)) gb o:=by
   intro l
   induction l with
   | nil=> intro o _;simp only [zbC,RVc]
   | cons a l ih=>
    intro o hc;simp only [zaw,RVc];refine⟨⟨encZ a,by have:=hc 0 (by simp);simpa using this,by simp only [RV]⟩,ih (o+1) λj hj=> ?_⟩;have:=hc (j+1) (by simp only [zam];omega);rw [show o+(j+1)=o+1+j by omega] at this
    simpa using this
  refine key zs 0 λj hj=> ?_;rw [za3,zbI] at*;have hcj:cur.toList[j]?=(zs.map encZ)[j]?:=by rw [<-h6,zaA,if_pos hj]
  rw [zaR] at hcj;unfold World.cell?;simp only [h2,<-hcj,zcJ,zaG,zah,if_false]
set_option maxRecDepth 100000 in
theorem Tn(F:Fence)(n:Nat)(h7:F.fn 87)(hro:F.round=none)(l Bs:Nat)(J:List Int->World->Prop)(W:World)(hBs:W.cell? ⟨Bs,0,none⟩=some (.slice none 0 0))(h0:J [] W):CallsIn F n Tryz.prog 87 #[.func (.yield l) #[] #[],.pointer (some ⟨Bs,0,none⟩)] W λe W'=> (∃v,e=.returned v)/\J [] W':=by
 refine callsIn_of_wp Tryz.func87 rfl h7 ?_ hro;simp only [Tryz.ntmps87,zdD,zam,zan,Nat.reduceAdd,Nat.reduceSub,Array.replicate_succ,Array.replicate_zero,List.push_toArray,List.append_toArray,zaJ,zbe]
 gi_wp2
 gi_loopw [7] (λi wr=> i=.int .i64 0/\J [] wr) (λ_ _=> 0)
 case atStart=> exact⟨rfl,h0⟩
 case round=> obtain⟨rfl,hJs⟩:=hrel;gi_wp2;go_end0;exact⟨⟨_,rfl⟩,hJs⟩
theorem Tq:UO 45 (BJ Dx JG):=by
 have key:∀args H v H',BJ Dx JG args H=some (v,H')->H'=H/\∃f r g,args=[.fn (.func f) [] [.ref r g 0]]/\f≠0/\
   ((∃ty m es,H.get r=.blk g ty [.mp m]/\ty < gV/\H.get m=.map .i64 es/\f∈Dx/\(es.map (·.1)).Nodup/\(es.all λe=> (Lit.int .i64 e.1).wf)=true/\es.length<=1000000/\v=YX (es.map (·.1)))∨
    (∃ty,H.get r=.blk g ty [.s (.slice none 0 0)]/\ty < gV/\f∈JG/\v=ai2)):=by
  intro args H v H' h;unfold BJ at h;split at h
  ·rename_i f r g;split at h
   ·rename_i g' ty m hr;split at h
    ·rename_i es hm;split at h
     ·rename_i hc;obtain⟨rfl,h1,h2,h3,h4,h5,h6⟩:=hc;cases h;exact⟨rfl,f,r,_,rfl,h2,.inl ⟨ty,m,es,hr,h1,hm,h3,h4,h5,h6,rfl⟩⟩
     ·cases h
    ·cases h
   ·rename_i g' ty hr;split at h
    ·rename_i hc;obtain⟨rfl,h1,h2,h3⟩:=hc;cases h;exact⟨rfl,f,r,_,rfl,h2,.inr ⟨ty,hr,h1,h3,rfl⟩⟩
    ·cases h
   ·cases h
  ·cases h
 refine⟨JB λargs H v H' h ρ w kU R ha=> ?_,λargs H v H' h=> ?_⟩;rotate_left
 ·rw [(key _ _ _ _ h).1];exact Keeps.refl H
 ·obtain⟨rfl,f,r,g,rfl,hf0,hh⟩:=key _ _ _ _ h;obtain⟨cf,rfl,h1⟩:=RS ha;simp only [RV] at h1;obtain⟨fa,fc,rfl,h2,h3⟩:=h1;have hfa:fa=#[]:=by simp only [RVs] at h2;exact Array.ext' (by simpa using h2)
  subst hfa;obtain⟨cp,rfl,h4⟩:=RS h3;simp only [RV] at h4;obtain⟨a,rfl,h5,h6⟩:=h4;rcases hh with⟨ty,m,es,hr,hty,hm,hk,hnd,hwf,hlen,rfl⟩ | ⟨ty,hr,hty,hv,rfl⟩
  ·have hg:H'.gen r=g:=by simp [ah.gen,hr,fU.gen]
   obtain⟨b,sh,h7,rfl⟩:=h6 hg;have vG:=R.obj r b sh h7;simp only [yF,hr] at vG;obtain⟨cs,e,o1,o2,o3,o4⟩:=vG;obtain⟨o5,rfl,o7⟩:=o4.1 hty;simp only [RVc] at o3;obtain⟨⟨mv,o8,o9⟩,_⟩:=o3;simp only [RV] at o9;obtain⟨bm,rfl,o10⟩:=o9;have o11:=o10 (by simp [ah.gen,hm,fU.gen]);have hmo:=R.obj m bm 0 o11;simp only [yF,hm] at hmo;obtain⟨ces,bW,m1,_,m3,m4⟩:=hmo;have hkeys:ces.toList.map (λx=> x.key)=(es.map (·.1)).map encZ:=by
    have:∀(es:List (Int × AV)) (l:List MapEntry),RVm ρ H'.gen w .i64 es l->l.map (λx=> x.key)=(es.map (·.1)).map encZ:=by
     intro es
     induction es with
     | nil=> intro l hl;simp only [RVm] at hl;subst hl;rfl
     | cons x es ih=>
      intro l hl;obtain⟨n,y⟩:=x;simp only [RVm] at hl;obtain⟨e,es',rfl,k1,_,k3⟩:=hl;simp only [zaw,k1,ih es' k3]
    exact this es _ m3
   have hsz:ces.size=es.length:=by
    have:=congrArg List.length hkeys
    simpa using this
   have hrd:∀x∈ces.toList,∃n,n∈es.map (·.1)/\x.key=encZ n/\Go.WideElems.rd Tryz.prog 3 aio x=some (.int .i64 n,.lit (.bool true)):=by
    intro x hx;have hx':x.key∈(es.map (·.1)).map encZ:=by rw [<-hkeys];exact zaH.2 ⟨x,hx,rfl⟩
    obtain⟨n,hn,hxn⟩:=zaH.1 hx';refine⟨n,hn,hxn.symm,?_⟩;have hw:(Lit.int .i64 n).wf=true:=by
     obtain⟨e,he,rfl⟩:=zaH.1 hn;exact za2.1 hwf e he
    have hko:keyOf Tryz.prog 3 x.key=some (.int .i64 n):=by
     rw [<-hxn];simp [keyOf,mapKey,Tryz.underlying3,hw]
    exact Go.WideElems.rd_mk (R:=aio) (key:=x.key) (val:=x.val) (born:=x.born) (yv:=(.lit (.bool true),[])) hko rfl
   have aq8:(ces.toList.map (λx=> x.key)).Nodup:=by
    rw [hkeys];exact zcq.2 (hnd.imp λhab he=> hab (encZ_inj he))
   let D0:DataW Unit:=.map ((ces.toList.map (Go.WideElems.rg Tryz.prog 3 aio)).foldr DataW.insert []);have hown:w.ownsMap Tryz.prog 3 aio bm ces.size D0:=⟨ces,bW,m1,⟨by rw [hsz];unfold maxLen;omega,⟨m4.1,m4.2,aq8⟩,λx hx=> by
    obtain⟨n,_,_,h⟩:=hrd x hx;exact⟨_,h⟩⟩,zac _,rfl⟩
   have hik:(intKeys D0).Perm (es.map (·.1)):=by
    have p1:((ces.toList.map (Go.WideElems.rg Tryz.prog 3 aio)).foldr DataW.insert []).Perm (ces.toList.map (Go.WideElems.rg Tryz.prog 3 aio)):=Go.WideShapes.sorted_perm _;have p2:=p1.map λp=> Go.intOf p.1;refine p2.trans ?_;have:(ces.toList.map (Go.WideElems.rg Tryz.prog 3 aio)).map (λp=> Go.intOf p.1)=es.map (·.1):=by
     rw [zc2];have hinj:∀a b:List Int,a.map encZ=b.map encZ->a=b:=λa b h=> by
      have:=congrArg (List.map λv:Value=> match v with | .int _ n=> n | _=> 0) h
      simpa [zc2,Function.comp_def,encZ] using this
     refine hinj _ _ ?_;rw [<-hkeys,zc2];refine zbt λx hx=> ?_;obtain⟨n,_,hxn,hr⟩:=hrd x hx;simp only [Function.comp_apply,Go.WideElems.rg_of hr,Go.intOf,hxn]
    rw [this]
   have hms:Maps.size D0=es.length:=by
    show((ces.toList.map _).foldr DataW.insert []).length=_;rw [(Go.WideShapes.sorted_perm _).length_eq,zaD,Array.length_toList,hsz]
   have hbl:b < w.heap.size:=(zbx.1 o1).1;obtain rfl:f=239:=by
    simp only [Dx,zaj,zay,or_false] at hk;rcases hk with hk | hk
    ·exact hk
    ·exact absurd hk hf0
   have hseq:SeqGives Fence.wide 2 Tryz.prog 239 #[.pointer (some ⟨b,0,none⟩)] encZ (λss=> ss.Perm (intKeys D0)) (Maps.size D0) w:=
    AnyZI.keys_gives (ρ:=Tryz.keysA_ren) { Tryz.keysA with } Fence.wide _ trivial rfl (by omega) b bm _ D0 w hbl o8 hown
   have cS:=AnyZI.sorted_in Tryz.sortedA Fence.wide 5 trivial trivial trivial trivial rfl (by omega) (aaK _) (enters_of Tryz.func73 (by kernel_rfl) rfl) 239 #[.pointer (some ⟨b,0,none⟩)] trivial (enters_of Tryz.func239 (by kernel_rfl) rfl) _ _ (by rw [hms];unfold maxLen;omega) (by rw [hms];omega) _ hseq;refine((callsIn_wide (n:=5)).1 cS).mono λe w' ⟨v,ss,he,hp,hrow,hnil,hB⟩=> ?_;obtain⟨r1,r2⟩:=zJ R hB;have hpp:=hp.trans hik;refine⟨v,ρ,he,r1,?_,r2⟩;unfold YX;split
   ·rename_i hz;rw [hz] at hpp;have:=hnil.2 hpp.eq_nil;subst this;simp only [ai2,RV]
   ·rename_i hz;have hlen2:ss.length=(es.map (·.1)).length:=hpp.length_eq;rw [mergeSort_of_perm_i hpp] at hrow;have hml:((es.map (·.1)).mergeSort leI).length=(es.map (·.1)).length:=List.length_mergeSort _;have:=ant R hB (zs:=(es.map (·.1)).mergeSort leI) (λh=> hz (by
     rw [h] at hml;exact zas hml.symm)) (by rw [hml,<-hlen2];exact hrow)
    rw [hml] at this;exact this
  ·have hg:H'.gen r=g:=by simp [ah.gen,hr,fU.gen]
   obtain⟨b,sh,h7,rfl⟩:=h6 hg;have vG:=R.obj r b sh h7;simp only [yF,hr] at vG;obtain⟨cs,e,o1,o2,o3,o4⟩:=vG;obtain⟨o5,rfl,o7⟩:=o4.1 hty;simp only [RVc] at o3;obtain⟨⟨mv,o8,o9⟩,_⟩:=o3;simp only [RV] at o9;subst o9;have hbl:b < w.heap.size:=(zbx.1 o1).1;obtain rfl:f=87:=by simp only [JG,zaj,zay,or_false] at hv;rcases hv with hv | hv;exact hv;exact absurd hv hf0
   have hseq:SeqGives Fence.wide 2 Tryz.prog 87 #[.pointer (some ⟨b,0,none⟩)] encZ (λss:List Int=> ss=[]) 0 w:=λl J W hW hJ _ h0=> (Tn Fence.wide 2 trivial rfl l b J W ((hW.cell (p:=⟨b,0,none⟩) hbl).trans o8) h0).mono λe W' ⟨he,hj⟩=> ⟨he,[],rfl,hj⟩
   have cS:=AnyZI.sorted_in Tryz.sortedA Fence.wide 5 trivial trivial trivial trivial rfl (by omega) (aaK _) (enters_of Tryz.func73 (by kernel_rfl) rfl) 87 #[.pointer (some ⟨b,0,none⟩)] trivial (enters_of Tryz.func87 (by kernel_rfl) rfl) _ 0 (zaT _) (by omega) _ hseq;refine((callsIn_wide (n:=5)).1 cS).mono λe w' ⟨v,ss,he,hp,hrow,hnil,hB⟩=> ?_;obtain⟨r1,r2⟩:=zJ R hB;have:=hnil.2 hp;subst this;exact⟨_,ρ,he,r1,by simp only [ai2,RV],r2⟩
open Go.RowKit
theorem aip:∀x∈ahs,UO x.1 x.2:=by
 unfold ahs;refine zb8.2 ⟨Tq,?_⟩;refine zb8.2 ⟨aht _,?_⟩;refine zb8.2 ⟨Tj,?_⟩;refine zb8.2 ⟨aht _,?_⟩;refine zb8.2 ⟨aht _,?_⟩;refine zb8.2 ⟨⟨λf args H v H' h=> ?_,λargs H v H' h=> (by cases h)⟩,λx hx=> (by cases hx)⟩;simp only at h;split at h <;> cases h
theorem JZ {α:Type}{f:Nat}{p:α}:∀{l:List (Nat × α)},l.lookup f=some p->(f,p)∈l
 | [],h=> by cases h
 | (k,q)::l,h=> by
  rw [List.lookup_cons] at h;split at h
  ·rename_i e;cases h;rw [beq_iff_eq] at e;subst e;simp
  ·exact za5 _ (JZ h)
theorem anu:Wq Tryz.prog pol:=λf p h=> aip (f,p) (JZ h)
theorem VE:kG cl:=(callω_ok (P:=Tryz.prog) anu (by kernel_rfl)).2
open Go.ChangeShapes Go.WideShapes Go.ChangeAt Go.RowKit
theorem apL:Wq Tryz.prog pol:=
 anu
theorem aq9 {w:World}:abL ρ0 w:=⟨λb hb=> (by cases hb),trivial⟩
theorem apM:ownKnob Tryz.prog.godebug=none:=by kernel_rfl
theorem anv:laidOutB Tryz.prog=true:=by kernel_rfl
theorem aiq:Tryz.prog.follows .mixedOrders=true:=by kernel_rfl
def Cfg.avx(c:Cfg)(y:AV):List AV:=[I c.aG,I c.bn,I c.cO,I c.sets,I c.ways,I c.out,I c.inn,y]
theorem jE(c:Cfg){y:AV}(h:One y):(c.avx y).all AV.aX=true:=by simp [Cfg.avx,iE,h.2]
theorem lV {c:Cfg}{y:AV}:(c.avx y).length=8:=rfl
theorem jF {c:Cfg}{y:AV}:(c.avx y).take 8=c.avx y:=rfl
theorem aaL(H:ah)(c:Cfg){y:AV}(hy:One y)(hyl:∀K:ah,K.next=H.next+1->(∀r,r < H.next->K.get r=H.get r)->lnS y K=some (I c.init.length,K))(h:c.ok=true):cl 59 [.agg (c.avx y)] H=some (I 0,H):=by
 refine bU rfl rfl (akH _ _ _) ?_ gq;have w:=λH n m=> PV H n m;have e1:=hyl (H.guard.new (.blk 0 31 (c.avx y))) rfl (λr hr=> cZ hr);simp only [Cfg.avx] at e1;simp only [Cfg.ok,zaf,decide_eq_true_eq] at h;obtain⟨⟨⟨⟨⟨⟨⟨a,b⟩,d⟩,f⟩,g⟩,i⟩,j⟩,k⟩:=h;have t:∀n m,1<=n/\n<=m->qY n m=true:=λn m h=> by simp [qY,h.1,h.2]
 have hm:IntKind.wrap .i64 (c.bn*c.cO)=c.bn*c.cO:=by
  have:c.bn*c.cO<=8*4:=zb1 b.2 d.2 (by omega) (by omega);have:0<=c.bn*c.cO:=zcw (by omega) (by omega);exact wrap_i64 (by omega) (by omega)
 have k':¬c.bn*c.cO < c.init.length:=by omega
 simp only [Nat.reduceLT,xq_,hq_,ahC,aF,hy.2,Cfg.avx,w,t _ _ a,t _ _ b,t _ _ d,t _ _ f,t _ _ g,t _ _ i,t _ _ j,e1,oU,hm,k',zae]
theorem aaM(H:ah)(c:Cfg){y:AV}(hy:One y)(h:c.ok=true):cl 57 [.agg (c.avx y)] H=some (I c.tq,H):=by
 refine bU rfl rfl (akG _ _ _) ?_ gq;simp only [Cfg.ok,zaf,decide_eq_true_eq] at h;obtain⟨⟨⟨⟨⟨⟨⟨a,b⟩,d⟩,f⟩,g⟩,i⟩,j⟩,k⟩:=h;have hm:IntKind.wrap .i64 (c.bn*c.cO)=c.bn*c.cO:=by
  have:c.bn*c.cO<=8*4:=zb1 b.2 d.2 (by omega) (by omega);have:0<=c.bn*c.cO:=zcw (by omega) (by omega);exact wrap_i64 (by omega) (by omega)
 simp only [Nat.reduceLT,xq_,hq_,ahB,aF,hy.2,Cfg.avx,oU,hm,Cfg.tq]
theorem Xe(H:ah)(c:Cfg){y:AV}(hy:One y)(h:c.ok=true)(a:Int):cl 148 [.agg (c.avx y),I a] H=some (.tup [I (c.bM a),I (c.dh a)],H):=by
 have B:=Ak h;refine bU rfl rfl (afC _ _ _ _) ?_ (rY λx hx=> by
  simp only [zaj,zay,or_false] at hx;rcases hx with rfl | rfl <;> exact gq)
 have e:=λH=> aaM H c hy h;by_cases h0:a < 0
 ·simp only [Nat.reduceLT,Int.reduceNeg,xq_,hq_,GK,aF (jE c hy),h0,Cfg.bM,Cfg.dh,true_or]
 ·by_cases h1:c.tq<=a
  ·simp only [Nat.reduceLT,Int.reduceNeg,xq_,hq_,GK,aF (jE c hy),lV,jF,h0,h1,Cfg.bM,Cfg.dh,or_true,e]
  ·have q:a.tdiv c.cO=a / c.cO:=zcX (by omega);have r:a.tmod c.cO=a % c.cO:=zby (by omega);have q1:0<=a / c.cO:=Int.ediv_nonneg (by omega) (by have:=B.cO;omega);have q2:a / c.cO<=a:=Int.ediv_le_self _ (by omega);have q3:c.tq<=32:=B.tq.2;have w:=wrap_i64 (a:=a / c.cO) (by omega) (by omega);have z:c.cO≠0:=by have:=B.cO;omega
   have l2:(c.avx y)[2]?=some (I c.cO):=rfl;simp only [Nat.reduceLT,Int.reduceNeg,xq_,hq_,GK,aF (jE c hy),lV,jF,h0,h1,Cfg.bM,Cfg.dh,or_false,e,l2,Yv z,wC z,q,r,w]
theorem aaN(H:ah)(c:Cfg){y:AV}(hy:One y)(h:c.ok=true)(o:Opn):cl 109 [.agg (c.avx y),.agg o.av] H=some (B (c.right o),H):=by
 refine bU rfl rfl (afb _ _ _ _) ?_ gq;have e:=λH=> Xe H c hy h o.addr;have f1:c.right o=(decide (1<=o.aO) && decide (o.aO<=4) && !decide (c.bM o.addr=-1) && (decide (o.value=0) || decide (o.aO=2) || decide (o.aO=3))):=by simp [Cfg.right]
 rw [f1];by_cases a:1<=o.aO;rotate_left
 ·simp only [Nat.reduceLT,Int.reduceNeg,xq_,hq_,qA,aF (jE c hy),lV,jF,aF,Opn.av,e,a,zaV]
 by_cases b:o.aO<=4;rotate_left
 ·simp only [Nat.reduceLT,Int.reduceNeg,xq_,hq_,qA,aF (jE c hy),lV,jF,aF,Opn.av,e,a,b,zaU,zaV]
 by_cases d:c.bM o.addr=-1
 ·simp only [Nat.reduceLT,Int.reduceNeg,xq_,hq_,qA,aF (jE c hy),lV,jF,aF,Opn.av,e,a,b,d,zaU,zaV,zae]
 by_cases f:o.value=0
 ·simp only [Nat.reduceLT,Int.reduceNeg,xq_,hq_,qA,aF (jE c hy),lV,jF,aF,Opn.av,e,a,b,d,f,zal,zcL]
 by_cases g:o.aO=2
 ·simp only [Nat.reduceLT,Int.reduceLE,Int.reduceEq,Int.reduceNeg,xq_,hq_,qA,aF (jE c hy),lV,jF,aF,Opn.av,e,d,f,g,zal,zcL,zdn]
 by_cases i:o.aO=3
 ·simp only [Nat.reduceLT,Int.reduceLE,Int.reduceEq,Int.reduceNeg,xq_,hq_,qA,aF (jE c hy),lV,jF,aF,Opn.av,e,d,f,i,zal,zdn]
 ·simp only [Nat.reduceLT,Int.reduceNeg,xq_,hq_,qA,aF (jE c hy),lV,jF,aF,Opn.av,e,a,b,d,f,g,i,zal,zdc,zbZ]
theorem Qk(H:ah)(c:Cfg){y:AV}(hy:One y)(h:c.ok=true)(o:Opn){r ty:Nat}(hr:r < H.next)(hg:H.get r=.blk 0 ty (c.avx y)):cl 108 [.agg o.av,.ref r 0 0] H=some (B (!c.right o),H):=by
 refine bU rfl rfl (afa _ _ _ _) ?_ gq;have e:=λH=> aaN H c hy h o;have e1:lda 8 (.ref r 0 0) (H.guard.new (.blk 0 61 o.av))=some (.agg ((c.avx y).take 8),_):=gy (off:=0) (n:=8) (by rw [cZ (by rw [BF];exact hr),aj9];exact hg) (zac 8);simp only [Nat.reduceLT,xq_,hq_,Zv,aF (rX o),jF,e1,e]
theorem Xf(H:ah)(c:Cfg){y:AV}(hy:One y)(h:c.ok=true){v:AV}{l:List Opn}(hv:aW H v 3 l.length (l.flatMap Opn.av))(hl:l.length < 1000000000){r ty:Nat}(hr:r < H.next)(hg:H.get r=.blk 0 ty (c.avx y)):cl 106 [v,.ref r 0 0] H=some (B (!(decide (l.length<=24) && l.all c.right)),H):=by
 refine bU rfl rfl (ae8 _ _ _ _) ?_ gq;have e1:=hv.guard.lnS;have e2:=GU H.guard (enc:=Opn.av) gK (f:=.fn (.func 108) [] [.ref r 0 0]) hv.guard hl (λo=> !c.right o) (λo _=> by
  rw [oM (by kernel_rfl)];exact Qk H.guard c hy h o hr hg)
 have e3:cl 107 [v,.fn (.func 108) [] [.ref r 0 0]] H.guard=some (B (l.findIdx? λo=> !c.right o).isSome,H.guard):=by
  refine bg rfl rfl (ae9 _ _ _ _ ?_);simp only [xq_,Zu,e2,uQ]
 have e4:(l.findIdx? λo=> !c.right o).isSome=!l.all c.right:=by
  rw [zcU,zcz]
 by_cases h0:l.length<=24
 ·have h1:¬(24:Int) < l.length:=by omega
  simp only [xq_,Py,e1,e3,e4,h0,h1,zaU]
 ·have h1:(24:Int) < l.length:=by omega
  simp only [xq_,Py,e1,h0,h1,zaV,zal]
theorem air(H:ah)(c:Cfg){y:AV}(hy:One y)(h:c.ok=true){x:AV}{ps:List (List Opn)}(hx:WO H x ps)(hn:ps.length < 1000000000)(hl:∀l∈ps,l.length < 1000000000):cl 60 [.agg (c.avx y),x] H=some (I (if c.xY ps then 0 else 1),H):=by
 refine bU rfl rfl (akI _ _ _ _) ?_ gq;have hx1:=hx.jZ (H':=H.guard.new (.blk 0 31 (c.avx y))) (by rw [fA,BF];omega) λr hr=> by rw [cZ (by rw [BF];exact hr),aj9]
 obtain⟨cells,x1,x2⟩:=hx1;have hcl:cells.length=ps.length:=by have:=x1.1;omega
 let bad:List Opn->Bool:=λl=> !(decide (l.length<=24) && l.all c.right)
 have e2:=GV (H.guard.new (.blk 0 31 (c.avx y))) (f:=.fn (.func 106) [] [.ref H.next 0 0]) x1 hn (λi=> bad (ps.getD i [])) (λi v hv=> by
  have hi:i < ps.length:=by rw [<-hcl];exact(zai.1 hv).1
  have hpi:ps[i]?=some (ps.getD i []):=by simp [List.getD,zab hi]
  rw [oM (by kernel_rfl)];exact Xf _ c hy h (x2 i v _ hv hpi).1 (hl _ (zaq hpi)) (by rw [fA,BF];omega) (bF (by rw [BF])))
 have e4:((List.range ps.length).findIdx? λi=> bad (ps.getD i [])).isSome=!(ps.all λl=> decide (l.length<=24) && l.all c.right):=by
  rw [zcU,zcz,zdq,zbY,zbY];constructor
  ·rintro⟨i,hi,hb⟩;have hi:i < ps.length:=zaX.1 hi;exact⟨ps.getD i [],zaq (i:=i) (by simp [List.getD,zab hi]),hb⟩
  ·rintro⟨l,hm,hb⟩;obtain⟨i,hi,he⟩:=zdr hm;have hg:ps.getD i []=l:=by simp [List.getD,zab hi,he]
   exact⟨i,zaX.2 hi,by rw [hg];exact hb⟩
 have e3:cl 105 [x,.fn (.func 106) [] [.ref H.next 0 0]] (H.guard.new (.blk 0 31 (c.avx y)))=some (B (!(ps.all λl=> decide (l.length<=24) && l.all c.right)),H.guard.new (.blk 0 31 (c.avx y))):=by
  refine bg rfl rfl (ae7 _ _ _ _ ?_);simp only [xq_,Zt,e2,uQ,e4]
 have l0:(c.avx y)[0]?=some (I c.aG):=rfl;have e5:=x1.lnS;cases hb:ps.all λl=> decide (l.length<=24) && l.all c.right with
 | false=> simp only [Nat.reduceLT,xq_,hq_,SA,aF (jE c hy),e3,hb,zal,Cfg.xY,zaV]
 | true=>
  by_cases hc:(ps.length:Int)=c.aG
  ·simp only [Nat.reduceLT,xq_,hq_,SA,aF (jE c hy),e3,e5,hb,l0,zae,Cfg.xY,hc]
  ·simp only [Nat.reduceLT,xq_,hq_,SA,aF (jE c hy),e3,e5,hb,l0,zae,zal,Cfg.xY,zaU,hc]
theorem Tt(H:ah)(hb:H.base<=H.next)(c:Cfg)(h:c.ok=true){y:AV}(hy:kE H y c.init){x:AV}{ps:List (List Opn)}(hx:WO H x ps)(hp:c.xY ps=true):∃H' A g',cl 20 [.agg (c.avx y),x] H=some (.tup [.ref A.je 0 0,I 0],H')/\Made H H' g'/\iM g' A (.new c ps):=by
 have Bd:=Ak h;obtain⟨hp1,hp2⟩:=ES hp;have hn:=Bd.aG;let H0:=H.new (.blk 0 31 (c.avx y));let H1:=H.new (.blk 0 31 c.av);have lt1:H.next < H1.next:=by simp only [H1,fA];omega
 have g1:H1.get H.next=.blk 0 31 c.av:=bF rfl
 have b1:lda 8 (.ref H.next 0 0) H0=some (.agg (c.avx y),H0):=(gy (off:=0) (n:=8) (xs:=c.avx y) (bF rfl) (zac 8)).trans rfl;have e1:=aaL H0 c hy.one (λK hk hg=> (hy.is.jZ (H':=K) (by rw [hk];simp only [H0,fA];omega) λr _ hr=> by rw [hg r (by simp only [H0,fA];omega)];exact cZ hr).lnS) h;have e2:=air H0 c hy.one h (hx.jZ (H':=H0) (by simp only [H0,fA];omega) λr hr=> cZ hr) (by omega) λl hl=> by have:=hp2 l hl;omega
 rw [hp] at e2;have e3:=Hg H0 (x:=y) (l:=c.init) (by have:=Bd.init;have:=Bd.tq;omega) (hy.new _);obtain⟨H2',f,P,gf,e4,M1,F1,J1⟩:=PZ H1.guard (zac _) c h;obtain⟨H2,e4,M1⟩:=drawn e4 M1;obtain⟨H3',t,e5,M2⟩:=Vo H2.guard;obtain⟨H3,e5,M2⟩:=drawn e5 M2;let A0:Adr:=⟨H3.next,f,t,λ_ _=> 0,P⟩
 have bx:∀H':ah,(∀r,r < H1.next->H'.get r=H1.get r)->H'.get H.next=.blk 0 31 c.av:=λH' hs=> by rw [hs _ lt1,g1]
 have M12:=M1.add M2;have b3:=pq (bx H3 M12.same);have b2:=pq (bx H2 M1.same);let xs:=Ap A0 c++[zN]
 have hall:xs.all AV.aX=true:=by simp only [xs,Ap,zbL,iF];rfl
 have M3:Made H3 (H3.new (.blk 0 53 xs)) (upd Aj H3.next (oO A0 c 0)):=by
  refine oI hall (by simp [xs,oO]) λi cc y hc hy=> ?_;simp only [oO] at hc;by_cases hi:i < (Ap A0 c).length
  ·left;rw [zaN (by rw [zaD];exact hi),zaR] at hc;rw [zaN hi] at hy;rw [hy] at hc;exact(zaZ hc).symm
  ·right;have hlen:(Ap A0 c).length=10:=rfl;have:i=10:=by
    have:=(zai.1 hy).1;simp only [xs,zao,zam,zan] at this;omega
   subst this;cases hc;cases hy;exact⟨rfl,1,rfl⟩
 have M0:=M12.add M3;let g0:=upd (upd gf t (lY [])) H3.next (oO A0 c 0)
 let K:=H3.next
 have key:∀k i,i+k=ps.length->∀Hi gi N,Made H1 Hi gi->gi K=some (oO { A0 with N:=N } c i)->(∀q,q < K->gi q=g0 q)->(∀(j:Nat) l,j < i->ps[j]?=some l->qC gi (N j) c j (.new c j l))->ai5 N i->
   ∃H' g' N',Gy cl [.ref H.next 0 0,.ref K 0 0,x,I ps.length,I i] Hi=some (.tup [.ref K 0 0,I 0],H')/\Made H1 H' g'/\g' K=some (oO { A0 with N:=N' } c ps.length)/\(∀q,q < K->g' q=g0 q)/\(∀(j:Nat) l,j < ps.length->ps[j]?=some l->qC g' (N' j) c j (.new c j l))/\ai5 N' ps.length:=by
  intro k
  induction k with
  | zero=>
   intro i hi Hi gi N M hm hl hnd hj;have h1:¬(i:Int) < ps.length:=by omega
   have hi':ps.length=i:=by omega
   rw [LG];refine⟨Hi,gi,N,?_,M,by rw [hi'];exact hm,hl,by rw [hi'];exact hnd,by rw [hi'];exact hj⟩;simp only [xq_,h1]
  | succ k ih=>
   intro i hi Hi gi N M hm hlow hnd hj;have h1:(i:Int) < ps.length:=by omega
   have h6:(i:Int)+1=((i+1:Nat):Int):=by omega
   have h7:=wrap_i64 (a:=((i+1:Nat):Int)) (by omega) (by omega);have hxi:=hx.jZ (H':=Hi) (zau (Nat.le_of_lt lt1) M.next) λr hr=> by rw [M.same r (by omega)];exact cZ hr
   obtain⟨cells,x1,x2⟩:=hxi;have hcl:cells.length=ps.length:=by have:=x1.1;omega
   have s1:=x1.ix (k:=.i64) (i:=(i:Int)) (by omega) h1;rw [zat] at s1;have s2:=x1.ld (i:=i) (by omega);obtain⟨v,hv⟩:∃v,cells[i]?=some v:=⟨_,zab (by omega)⟩
   obtain⟨l,hl⟩:∃l,ps[i]?=some l:=⟨_,zab (by omega)⟩
   rw [hv] at s2;obtain⟨v1,v2⟩:=x2 i v l hv hl;have s4:=pq (bx Hi M.same);obtain⟨y,hy,cy⟩:=M.good.seq hm (i:=10) (m:=1) (l:=pJ N i) rfl;obtain⟨Ha',a,ga,a1,Ma,Ia⟩:=aaq Hi.guard c h i l (by have:=hp2 l (zaq hl);omega) v1.guard v2;obtain⟨Ha,a1,Ma⟩:=drawn a1 Ma;have Na:=M.trans Ma;let ga':=cup Hi.next gi ga
   have hK:=M.good.lt hm;have ah1:∀q,q < Hi.next->ga' q=gi q:=λq hq=> by simp only [ga',cup,hq,if_true]
   have hma:ga' K=some (oO { A0 with N:=N } c i):=by rw [ah1 K hK,hm]
   let o:fU:=.blk 0 64 [.ref (a 0) 0 0];have hnl:(pJ N i).length=i*1:=by simp [pJ]
   obtain⟨y',He,Hf,t1,t2,t3,t4⟩:=(Na.good.new o).append (e:=64) (by_:=8) (by rw [jy,Na.base];simp only [H1,jy,fA];omega) hma (i:=10) rfl (by decide) hnl ((cy.ext Ma.next Ma.same).new o) (ku (ex:=true) (n:=1) (m:=1) (l:=[.ref (a 0) 0 0]) rfl) rfl (by unfold most;omega) (by unfold most;omega);let N':Nat->Nat->Nat:=λj=> if j=i then a else N j
   have hN:∀j,j < i->N' j=N j:=λj hj=> by simp only [N'];rw [if_neg (by omega)]
   have hNi:N' i=a:=by simp only [N',if_true]
   have Mf:Made H1 Hf (upd ga' K (oO { A0 with N:=N' } c (i+1))):=by
    refine((Na.new o).step t3 t4).as ?_
    congr 1
    simp only [oO];rw [GX hN,hNi];rfl
   have hal:∀s,s < 6->Hi.next<=a s/\ga' (a s)=ga (a s):=λs hs=> by
    obtain⟨l,hg⟩:=Ia.some hs;have:=(Ma.lt hg).1;exact⟨this,by simp only [ga',cup];rw [if_neg (by omega)]⟩
   have hNl:∀j,j < i->∀s,s < 6->N j s < Hi.next:=λj hji s hs=> by
    obtain⟨lj,hlj⟩:∃l,ps[j]?=some l:=⟨_,zab (by omega)⟩
    obtain⟨l,hg⟩:=(hnd j lj hji hlj).some hs;exact M.good.lt hg
   obtain⟨H',g',N'',r1,r2⟩:=ih (i+1) (by omega) Hf _ N' Mf aU (λq hq=> by
    rw [aZ (by omega),ah1 q (by omega),hlow q hq]) (λj lj hj1 hlj=> by
    by_cases hji:j=i
    ·subst hji;rw [hl] at hlj;cases hlj;rw [hNi];exact Ia.ext λs hs=> by
      obtain⟨h1,h2⟩:=hal s hs;rw [aZ (by omega),h2]
    ·rw [hN j (by omega)];refine(hnd j lj (by omega) hlj).ext λs hs=> ?_;have hlt:=hNl j (by omega) s hs;have hne:N j s≠K:=λe=> by
      have I:=hnd j lj (by omega) hlj;obtain⟨l',hg⟩:=I.some hs;obtain⟨h0,h1,h2,h3,h4,h5⟩:=I;have hh:(gi (N j s)).map (λl=> l[10]?)=some (some (.seq 1 (pJ N i))):=by rw [e,hm];rfl
      match s,hs with
      | 0,_=> rw [h0] at hh;simp [vS,II,Cfg.av,bJ.av] at hh
      | 1,_=> rw [h1] at hh;simp [dn] at hh
      | 2,_=> rw [h2] at hh;simp [pU] at hh
      | 3,_=> rw [h3] at hh;simp [Cj,Cfg.av] at hh
      | 4,_=> rw [h4] at hh;simp [DJ,Cfg.av] at hh
      | 5,_=> rw [h5] at hh;simp [iC] at hh
     rw [aZ hne,ah1 _ hlt]) (λj k s t hj1 hk1 hs ht e=> by
    by_cases hji:j=i
    ·by_cases hki:k=i
     ·subst hji;subst hki;rw [hNi] at e;exact⟨rfl,Ia.inj hs ht e⟩
     ·subst hji;rw [hNi,hN k (by omega)] at e;have:=(hal s hs).1;have:=hNl k (by omega) t ht;omega
    ·by_cases hki:k=i
     ·subst hki;rw [hNi,hN j (by omega)] at e;have:=(hal t ht).1;have:=hNl j (by omega) s hs;omega
     ·rw [hN j (by omega),hN k (by omega)] at e;exact hj j k s t (by omega) (by omega) hs ht e)
   refine⟨H',g',N'',?_,r2⟩;rw [LG];have eb:=jS (e:=64) (m:=1) (z:=[zP]) (v:=.ref (a 0) 0 0) (H:=Ha) rfl rfl rfl;have ec:(AV.ref (a 0) 0 0).cells=[.ref (a 0) 0 0]:=rfl;rw [ec] at eb;simp only [o] at t1 t2;simp only [Nat.reduceLeDiff,xq_,hq_,h1,s1,s2,s4,hy,a1,ajx,zbo,eb,t1,t2,dF,h6,h7,r1]
 have hfl:f < H2.next:=M1.good.lt F1.1
 have ht:=M2.lt aU;obtain⟨H',g',N,r1,r2,r3,r4,r5,r6⟩:=key ps.length 0 (by omega) _ g0 (λ_ _=> 0) M0 aU (λq hq=> rfl) (λj l hj=> by omega) (λi j s t hi=> by omega);have hg0:∀q,q < H2.next->g0 q=gf q:=λq hq=> by simp only [g0];rw [aZ (by omega),aZ (by omega)]
 refine⟨H',{ A0 with N:=N },g',bg rfl rfl (aks _ _ _ _ (r:=(_,H')) ?_),r2.DI,?_⟩
 ·have l7:(c.avx y)[7]?=some y:=rfl;have b0:oQ Tryz.prog .neq 57 (I 0) (I 0)=some (B false):=by kernel_rfl
  have st7:st 1 (.ref H.next 0 7) (dat c.init) H0=some (aY,H1):=by
   simp only [H0,H1];rw [Gg rfl];simp only [Nat.reduceAdd,aN,xq_,hq_,Cfg.avx,Cfg.av,hb]
   try rfl
  have em:bd 53 [(0,.ref f 0 0),(1,.ref t 0 0),(2,.agg c.av)]=some (.agg xs):=by
   simp only [xq_,ajE,jX,gI,ahe,Cfg.av,fJ];rfl
  have el:=(hx.jZ (H':=H3.new (.blk 0 53 xs)) (by have:=M12.next;simp only [fA];omega) λr hr=> by rw [M0.same r (by omega)];exact cZ hr)
  obtain⟨cells,x1,_⟩:=el;have el:=x1.lnS;simp only [H0] at b1 e1 e2 e3 st7;simp only [H1] at e4 e5 st7 b2 b3;simp only [Nat.reduceLT,xq_,hq_,ahv,aF (jE c hy.one),b1,e1,b0,e2,e3,l7,st7,e4,e5,b3,em,aF hall,el];exact r1
 ·refine⟨?_,?_,⟨?_,?_,rfl,rfl⟩,?_,?_,?_,?_⟩
  ·rw [r3];simp only [dZ.new,zbP]
  ·rw [r4 t ht.2];simp only [g0];rw [aZ (by omega),aU];rfl
  ·show g' f=_;rw [r4 f (by have:=M2.next;omega),hg0 f hfl,F1.1];rfl
  ·intro i p hp;have I:=F1.2.1 i p hp;exact I.ext λs hs=> by
    obtain⟨l,r,hg⟩:=I.some hs;have:=M1.good.lt hg;rw [r4 _ (by have:=M2.next;omega),hg0 _ this]
  ·intro i n hi;simp only [dZ.new,zbf,zbV] at hi;obtain⟨l,hl,rfl⟩:=hi;exact r5 i l (zai.1 hl).1 hl
  ·simp only [dZ.new,Fab.new,zb4];exact J1
  ·simp only [dZ.new,zbP];exact r6
  ·show t≠f;omega
theorem VF(p:Pkt){d:Nat}:∀x∈p.av,Frz (d+2) x:=λx hx=> by
 simp only [Pkt.av,zaj,zay,or_false] at hx;rcases hx with rfl | rfl | rfl | rfl | rfl | rfl | rfl | rfl | rfl <;> first | exact gq | exact uM
section
variable {b:Nat}{H:ah}{g:bD}{q:Nat}
theorem aog(a c:Bool):bi .neq 4 (B a) (B c)=some (B (a !=c)):=by
 rw [adl];cases a <;> cases c <;> rfl
theorem anw(G:Good b H g)(hb:H.base<=b){c:Cfg}{dH:Rows}(h:g q=some (DJ c dH))(aj aQ head:Int)(data:List Int)(hl:data.length < 1000000000):
  ∃H',cl 240 [.ref q 0 0,I aj,I aQ,I head,dat data] H=some (I (iw c dH aj aQ head data).2,H')/\Good b H' (upd g q (DJ c (iw c dH aj aQ head data).1))/\Step b H H':=by
 obtain⟨r,f1,f2,_⟩:=G.map h (i:=8) rfl;have f3:=f2 (.agg #[.int .i64 0,.int .i64 0,.slice none 0 0]) aj true;rw [xu] at f3;have hb0:H.base<=H.next:=zau hb G.1
 refine kD rfl rfl (amV _ _ _ _ _ _ _) ?_;cases hr:jg dH aj with
 | none=>
  simp only [hr,zc0,if_true] at f3;have hp:iw c dH aj aQ head data=(dH,3):=by simp only [iw,hr]
  have zc:AV.cells (.s (.agg #[.int .i64 0,.int .i64 0,.slice none 0 0]))=[zI,zI,zN]:=rfl;have zn:zN.aX=true:=rfl;rw [hp];refine⟨H.new (.blk 0 95 [zI,zI,zN]),?_,by rw [fF h];exact G.new _,Step.new _ G.1⟩;simp only [Int.reduceNeg,Nat.reduceAdd,aN,xq_,hq_,yC,f1,f3,zc,zn,hb0,zal]
 | some w=>
  simp only [hr,zak,if_true] at f3;let H1:=H.new (.blk 0 95 w.av);have G1:Good b H1 g:=G.new _;have l0:=G1.load h (i:=0) (x:=I c.aG) rfl;have l2:=G1.load h (i:=2) (x:=I c.cO) rfl;have e2:=λH=> (mQ H data).lnS;have e5:=λH=> jL H data hl;by_cases hbad:aQ < 0∨2 < aQ∨head < -1∨c.aG<=head
  ·have hp:iw c dH aj aQ head data=(dH,1):=by simp only [iw,hr];rw [if_pos hbad]
   rw [hp];refine⟨H1,?_,by rw [fF h];exact G1,Step.new _ G.1⟩;simp only [H1] at l0 l2;by_cases s0:aQ < 0
   ·simp only [Int.reduceNeg,Nat.reduceAdd,aN,xq_,hq_,yC,f1,f3,hb0,zae,s0];rfl
   ·by_cases s2:2 < aQ
    ·simp only [Int.reduceNeg,Nat.reduceAdd,aN,xq_,hq_,yC,f1,f3,hb0,zae,s0,s2];rfl
    ·by_cases s3:head < -1
     ·simp only [Int.reduceNeg,Nat.reduceAdd,aN,xq_,hq_,yC,f1,f3,hb0,zae,s0,s2,s3];rfl
     ·have s4:c.aG<=head:=by omega
      simp only [Int.reduceNeg,Nat.reduceAdd,aN,xq_,hq_,yC,f1,f3,hb0,zae,s0,s2,s3,l0,s4];rfl
  ·have s0:¬aQ < 0:=λh=> hbad (.inl h);have s2:¬2 < aQ:=λh=> hbad (.inr (.inl h));have s3:¬head < -1:=λh=> hbad (.inr (.inr (.inl h)));have s4:¬c.aG<=head:=λh=> hbad (.inr (.inr (.inr h)));have hdl:decide (data≠[])=decide ((data.length:Int)≠0):=by
    cases data with
    | nil=> rfl
    | cons a l=>
     have:((a::l).length:Int)≠0:=by simp only [zam];omega
     simp only [this,ne_eq,not_false_eq_true,decide_true];rfl
   by_cases hw:((decide (head=-1) !=decide (aQ=0)) || (decide (data≠[]) && decide ((data.length:Int)≠c.cO)))=true
   ·have hp:iw c dH aj aQ head data=(dH,1):=by simp only [iw,hr];rw [if_neg hbad,if_pos hw]
    rw [hp];refine⟨H1,?_,by rw [fF h];exact G1,Step.new _ G.1⟩;simp only [H1] at l0 l2;rw [hdl] at hw;cases hx:(decide (head=-1) !=decide (aQ=0)) with
    | true=>
     simp only [Int.reduceNeg,Nat.reduceAdd,aN,xq_,hq_,yC,f1,f3,hb0,zae,s0,s2,s3,l0,s4,aog,hx];rfl
    | false=>
     rw [hx,zca,zaf] at hw;have w1:¬(data.length:Int)=0:=of_decide_eq_true hw.1;have w2:¬(data.length:Int)=c.cO:=of_decide_eq_true hw.2;simp only [Int.reduceNeg,Nat.reduceAdd,Nat.reduceLeDiff,aN,xq_,hq_,yC,f1,f3,hb0,zae,zal,s0,s2,s3,l0,s4,aog,hx,e2,w1,l2,w2];rfl
   ·have hp:iw c dH aj aQ head data=(lG dH aj ⟨aQ,head,if data=[] then w.data else data⟩,0):=by simp only [iw,hr];rw [if_neg hbad,if_neg hw]
    rw [hp];rw [hdl] at hw;have hx:(decide (head=-1) !=decide (aQ=0))=false:=by cases h1:(decide (head=-1) !=decide (aQ=0)) <;> simp_all
    rw [hx,zca] at hw;let nr:Row:=⟨aQ,head,if data=[] then w.data else data⟩
    let H2:=H.new (.blk 0 95 nr.av);have G2:Good b H2 g:=G.new _;obtain⟨r',k1,_,_,k2⟩:=G2.map h (i:=8) rfl;obtain⟨H',m1,m2,m3,m4⟩:=(k2 hb).1 aj (.agg nr.av);refine⟨H',?_,?_,(Step.new _ G.1).trans m3⟩
    ·simp only [H1,Row.av] at l0 l2;simp only [H2,nr,Row.av] at k1 m1;by_cases hd:data=[]
     ·subst hd;simp only [if_true] at k1 m1;have z1:((([]:List Int).length:Nat):Int)=0:=rfl;have z2:(((0:Nat)):Int)=0:=rfl;simp only [Int.reduceLT,Int.reduceNeg,Nat.reduceAdd,aN,xq_,hq_,yC,EP,f1,f3,hb0,zae,s0,s2,s3,l0,s4,aog,hx,e2,z2,Row.av,k1,m1]
     ·have w1:¬(data.length:Int)=0:=λh=> hd (zas (by omega));have w3:(0:Int) < data.length:=by omega
      have w2:(data.length:Int)=c.cO:=by
       rw [decide_eq_true (show(data.length:Int)≠0 from w1),zaU] at hw;exact Classical.byContradiction λh=> hw (decide_eq_true h)
      simp only [hd,if_false] at k1 m1;rw [w2] at w1 w3;simp only [Int.reduceNeg,Nat.reduceAdd,aN,xq_,hq_,yC,EP,f1,f3,hb0,zae,zal,s0,s2,s3,l0,s4,aog,hx,e2,w2,l2,w1,w3,e5,Row.av,k1,m1]
    ·rw [Gl (λr:Row=> AV.agg r.av)] at m2;exact m2
end
theorem Xg {c:Cfg}{dH:Rows}{aj aQ head:Int}{data:List Int}(h:(iw c dH aj aQ head data).2≠0):(iw c dH aj aQ head data).1=dH:=by
 unfold iw at h ⊢;cases hr:jg dH aj with
 | none=> rfl
 | some w=>
  rw [hr] at h;simp only at h ⊢;split at h
  ·rename_i h1;rw [if_pos h1]
  ·rename_i h1;rw [if_neg h1];split at h
   ·rename_i h2;rw [if_pos h2]
   ·exact absurd rfl h
section
variable {b:Nat}{H:ah}{g:bD}{q d tt:Nat}{c:Cfg}{me:Int}{h:Home}
theorem nI.sub {g':bD}(N:nI g q d tt c me h)(hs:sW g g'):nI g' q d tt c me h:=⟨hs _ _ N.1,hs _ _ N.2.1,hs _ _ N.2.2⟩
theorem J3(G:Good b H g)(N:nI g q d tt c me h)(hd:∀e∈h.dH,e.2.data.length < 1000000000)(aj who id:Int):
  cl 196 [.ref q 0 0,I aj,I who,I id] H=some (.agg (granted h.dH me aj who id).av,H):=by
 refine bU rfl rfl (amg _ _ _ _ _ _) ?_ (mW (VF _));have G1:=G.guard.new (.blk 0 81 [zI,zI,zI,zI,zI,zI,zI,zB,zN]);have l1:=G1.load N.1 (i:=0) (x:=.ref d 0 0) rfl;have e1:=am9 G1 N.2.1 hd aj;have G2:=G1.new (.blk 0 95 (jo h.dH aj).av);have l2:=G2.load N.1 (i:=10) (x:=I me) rfl;have lr0:(jo h.dH aj).av[0]?=some (I (jo h.dH aj).aQ):=rfl;have lr1:(jo h.dH aj).av[1]?=some (I (jo h.dH aj).head):=rfl;have lr2:(jo h.dH aj).av[2]?=some (dat (jo h.dH aj).data):=rfl;simp only [Nat.reduceAdd,Nat.reduceLeDiff,aN,xq_,hq_,af2,l1,e1,l2,lr0,lr1,lr2,yO,jX,gI,RH,granted,Pkt.av]
def kW(g:bD)(d tt:Nat)(c:Cfg)(h:Home):bD:=upd (upd g d (DJ c h.dH)) tt (iC h.aT)
theorem nI.ne(N:nI g q d tt c me h):q≠d/\q≠tt/\d≠tt:=by
 refine⟨λe=> ?_,λe=> ?_,λe=> ?_⟩
 ·have h1:=N.1;have h2:=N.2.1;subst e;rw [h1] at h2;have:=congrArg List.length (zaZ h2);simp [Cj,DJ,Cfg.av] at this
 ·have h1:=N.1;have h2:=N.2.2;subst e;rw [h1] at h2;have:=congrArg List.length (zaZ h2);simp [Cj,iC,Cfg.av] at this
 ·have h1:=N.2.1;have h2:=N.2.2;subst e;rw [h1] at h2;have:=congrArg List.length (zaZ h2);simp [DJ,iC,Cfg.av] at this
theorem nI.ais(N:nI g q d tt c me h)(h':Home):nI (kW g d tt c h') q d tt c me h':=by
 obtain⟨n1,n2,n3⟩:=N.ne;exact⟨by unfold kW;rw [aZ n2,aZ n1];exact N.1,by unfold kW;rw [aZ n3,aU],by unfold kW;rw [aU]⟩
theorem EU(N:nI g q d tt c me h):kW g d tt c h=g:=by
 obtain⟨n1,n2,n3⟩:=N.ne;unfold kW;rw [fF N.2.1,fF N.2.2]
theorem Ql {g':bD}(h:sW g g')(h':Home):sW (kW g d tt c h') (kW g' d tt c h'):=(h.both d _).both tt _
theorem yV(N:nI g q d tt c me h)(t:Turns):kW g d tt c { h with aT:=t }=upd g tt (iC t):=by
 unfold kW;rw [fF N.2.1]
theorem aaO(G:Good b H g)(hb:H.base<=b)(N:nI g q d tt c me h)(p:Pkt)(hl:p.data.length < 1000000000):
  ∃H',cl 228 [.ref q 0 0,.agg p.av] H=some (I (h.unlock c p).2,H')/\Good b H' (kW g d tt c (h.unlock c p).1)/\Step b H H':=by
 have hb0:H.base<=H.next:=zau hb G.1
 obtain⟨n1,n2,n3⟩:=N.ne;refine kD rfl rfl (amM _ _ _ _) ?_;let H1:=H.new (.blk 0 81 p.av);have G1:=G.newObj (ty:=81) (xs:=p.av) (aP p);have S1:sW g (upd g H.next (p.av.map Cell.av)):=(sW.refl g).more (G.isNone (zac _)) _;have N1:=N.sub S1;have l1:=G1.load N1.1 (i:=1) (x:=.ref tt 0 0) rfl;have o1:=WW G1.guard N1.2.2 p.aj;have p1:=G1.load aU (i:=1) (x:=I p.src) rfl;have p4:=G1.load aU (i:=4) (x:=I p.aj) rfl;have p5:=G1.load aU (i:=5) (x:=I p.ptr) rfl;have p6:=G1.load aU (i:=6) (x:=I p.aQ) rfl;have p7:=G1.load aU (i:=7) (x:=B p.flag) rfl;have p8:=G1.load aU (i:=8) (x:=dat p.data) rfl;by_cases ho:h.aT.owner p.aj=p.src;rotate_left
 ·have hp:h.unlock c p=(h,6):=by simp only [Home.unlock];rw [if_pos ho]
  rw [hp,EU N];refine⟨H1,?_,G1.sub S1,Step.new _ G.1⟩;simp only [Nat.reduceLT,xq_,JL,aF (aP p),l1,p4,o1,p1,ho,zal];rfl
 ·have l0:=G1.load N1.1 (i:=0) (x:=.ref d 0 0) rfl;let dd:=if p.flag then p.data else [];obtain⟨H2,s1,s2,s3⟩:=anw G1 (by rw [jy];exact hb) N1.2.1 p.aj p.aQ p.ptr dd (by simp only [dd];split <;> first | exact hl | exact(by simp));have hd0:dat ([]:List Int)=zN:=by simp [dat,gZ]
  have fl:∀k:AV->Option (AV × ah),(if p.flag=true then k (dat p.data) else k zN)=k (dat dd):=λk=> by
   simp only [dd];cases p.flag with
   | true=> rfl
   | false=> simp only [zah,if_false,hd0]
  by_cases hz:(iw c h.dH p.aj p.aQ p.ptr dd).2=0;rotate_left
  ·have hp:h.unlock c p=(h,(iw c h.dH p.aj p.aQ p.ptr dd).2):=by
    simp only [Home.unlock];rw [if_neg (λhn=> hn ho),if_neg hz]
   rw [hp,EU N];rw [Xg hz,fF N1.2.1] at s2;refine⟨H2,?_,s2.sub S1,(Step.new _ G.1).trans s3⟩;have hz':¬(iw c h.dH p.aj p.aQ p.ptr dd).2=0:=hz;cases hf:p.flag with
   | true=>
    have:dd=p.data:=by simp only [dd,hf,if_true]
    rw [this] at s1 hz' ⊢;rw [hf] at p7;simp only [Nat.reduceLT,xq_,JL,xI,aF (aP p),l1,p4,o1,p1,ho,zae,p7,p8,l0,p6,p5,s1,hz',zal]
   | false=>
    have:dd=[]:=by simp only [dd,hf,zah,if_false]
    rw [this,hd0] at s1;rw [this] at hz' ⊢;rw [hf] at p7;simp only [Nat.reduceLT,xq_,JL,xI,aF (aP p),l1,p4,o1,p1,ho,zae,p7,p8,l0,p6,p5,s1,hz',zal]
  ·have hp:h.unlock c p=(⟨(iw c h.dH p.aj p.aQ p.ptr dd).1,(h.aT.release p.aj p.src).1⟩,(h.aT.release p.aj p.src).2):=by
    simp only [Home.unlock];rw [if_neg (λhn=> hn ho),if_pos hz]
   rw [hp];have hqn:=G.ne N.2.2;have hdn:=G.ne N.2.1;have hhn:=G.ne N.1;have k1:upd (upd g H.next (p.av.map Cell.av)) d (DJ c (iw c h.dH p.aj p.aQ p.ptr dd).1) H.next=some (p.av.map Cell.av):=by rw [aZ hdn.symm,aU]
   have k2:upd (upd g H.next (p.av.map Cell.av)) d (DJ c (iw c h.dH p.aj p.aQ p.ptr dd).1) q=some (Cj d tt c me):=by rw [aZ n1];exact N1.1
   have k3:upd (upd g H.next (p.av.map Cell.av)) d (DJ c (iw c h.dH p.aj p.aQ p.ptr dd).1) tt=some (iC h.aT):=by rw [aZ n3.symm];exact N1.2.2
   have r1:=s2.load k1 (i:=1) (x:=I p.src) rfl;have r4:=s2.load k1 (i:=4) (x:=I p.aj) rfl;have rl:=s2.load k2 (i:=1) (x:=.ref tt 0 0) rfl;obtain⟨H3,t1,t2,t3⟩:=Qe s2 (by rw [s3.base,jy];exact hb) k3 p.aj p.src;refine⟨H3,?_,t2.sub (Ql S1 _),((Step.new _ G.1).trans s3).trans t3⟩;rw [hz] at s1;cases hf:p.flag with
   | true=>
    have:dd=p.data:=by simp only [dd,hf,if_true]
    rw [this] at s1;rw [hf] at p7;simp only [Nat.reduceLT,xq_,JL,xI,aF (aP p),l1,p4,o1,p1,ho,zae,p7,p8,l0,p6,p5,s1,rl,r1,r4,t1]
   | false=>
    have:dd=[]:=by simp only [dd,hf,zah,if_false]
    rw [this,hd0] at s1;rw [hf] at p7;simp only [Nat.reduceLT,xq_,JL,xI,aF (aP p),l1,p4,o1,p1,ho,zae,p7,p8,l0,p6,p5,s1,rl,r1,r4,t1]
end
section
variable {b:Nat}{H:ah}{g:bD}{q d tt:Nat}{c:Cfg}{me:Int}{h:Home}
abbrev zP9:List AV:=[zI,zI,zI,zI,zI,zI,zI,zB,zN]
def VG(r:Home × Pkt × Bool × Int):AV:=.tup [.agg r.2.1.av,B r.2.2.1,I r.2.2.2]
theorem aaP(G:Good b H g)(hb:H.base<=b)(N:nI g q d tt c me h)(hc:c.ok=true)(hw:(h.aT.wait.map (·.1)).Nodup)(hwl:∀aj,(h.aT.ws aj).length < 1000000)(hr:∀e∈h.dH,e.2.data.length < 1000000000)(p:Pkt)(hl:p.data.length < 1000000000):
  ∃H',cl 198 [.ref q 0 0,.agg p.av] H=some (VG (h.handle c me p),H')/\Good b H' (kW g d tt c (h.handle c me p).1)/\Step b H H':=by
 have hb0:H.base<=H.next:=zau hb G.1
 obtain⟨n1,n2,n3⟩:=N.ne;refine kD rfl rfl (amj _ _ _ _) ?_;let H1:=H.new (.blk 0 81 p.av);let H2:=H1.new (.blk 0 81 zP9);have Ga:=G.newObj (ty:=81) (xs:=p.av) (aP p);have G2:=Ga.newObj (ty:=81) (xs:=zP9) rfl;let g2:=upd (upd g H.next (p.av.map Cell.av)) (H.next+1) (zP9.map Cell.av);have e12:(H.new (.blk 0 81 p.av)).next=H.next+1:=fA
 have S2:sW g g2:=((sW.refl g).more (G.isNone (zac _)) _).more (G.isNone (za6 _)) _;have N2:=N.sub S2;have st2:Step b H H2:=(Step.new _ G.1).trans (Step.new _ (G.new _).1);have hp1:g2 H.next=some (p.av.map Cell.av):=by simp only [g2];rw [aZ (by omega),aU]
 have hp2:g2 (H.next+1)=some (zP9.map Cell.av):=aU;have G2':Good b H2 g2:=G2;have p0:=G2'.load hp1 (i:=0) (x:=I p.aO) rfl;have p1:=G2'.load hp1 (i:=1) (x:=I p.src) rfl;have p2:=G2'.load hp1 (i:=2) (x:=I p.dst) rfl;have p3:=G2'.load hp1 (i:=3) (x:=I p.id) rfl;have p4:=G2'.load hp1 (i:=4) (x:=I p.aj) rfl;have pa:=G2'.loads hp1 (i:=0) (n:=9) (xs:=p.av) rfl rfl (by decide);have l10:=G2'.load N2.1 (i:=10) (x:=I me) rfl;have l2:=G2'.load N2.1 (i:=2) (x:=I c.aG) rfl;have l3:=G2'.load N2.1 (i:=3) (x:=I c.bn) rfl;have la:=G2'.loads N2.1 (i:=2) (n:=8) (xs:=c.av) rfl rfl (by decide);have lt:=G2'.load N2.1 (i:=1) (x:=.ref tt 0 0) rfl;have ck:=Ar H2 p;have ho:=GN H2.guard c hc p.aj;have ez:bd 81 []=some (.agg zP9):=by simp only [xq_,yO,jX,dX]
 -- the zero packet is laid anew
 have zst:∀{K:ah} {gk:bD},Good b K gk->K.base<=b->gk (H.next+1)=some (zP9.map Cell.av)->∀{y:List AV},y.length=9->y.all AV.aX=true->∃K',st 9 (.ref (H.next+1) 0 0) (.agg y) K=some (aY,K')/\lda 9 (.ref (H.next+1) 0 0) K'=some (.agg y,K')/\Good b K' (upd gk (H.next+1) (y.map Cell.av))/\Step b K K':=by
  intro K gk Gk hk hz y hy ha;obtain⟨K',t1,t2,t3,t4⟩:=Gk.stores hk hz (i:=0) (n:=9) (vs:=y) (by simp) hy ha;have e:pG (zP9.map Cell.av) 0 y=y.map Cell.av:=by
   unfold pG;rw [zaS (by simp [hy])];simp
  rw [e] at t2;exact⟨K',t1,t2.loads aU (i:=0) (n:=9) (xs:=y) (by rw [zaQ,zaz (by simp [hy])]) hy (by decide),t2,t3⟩
 obtain⟨Hz,z1,z2,z3,z4⟩:=zst G2' (by simp only [H2,H1,jy];exact hb) hp2 (y:=zP9) rfl rfl;have Sz:∀{gk:bD} {y:List Cell},sW gk (upd gk (H.next+1) y)->True:=λ_=> trivial;have zg:Good b Hz g:=z3.sub λq' cs h=> by
  have hne:q'≠H.next+1:=λe=> by
   have:=G.lt h;omega
  rw [aZ hne];exact S2 _ _ h
 simp only [H2,H1] at p0 p1 p2 p3 p4 pa l10 l2 l3 la lt ck ho z1 z2;have bad:∀e:Int,h.handle c me p=(h,.zero,false,e)->∀H',H'=Hz->Good b H' (kW g d tt c (h.handle c me p).1)/\Step b H H':=λe he H' hH=> by
  rw [he,EU N,hH];exact⟨zg,st2.trans z4⟩
 by_cases h1:(!(p.ok && decide (p.dst=me) && decide (p.src < c.aG)) || (decide (p.aO≠1) && decide (p.aO≠2)))=true
 ·have hp:h.handle c me p=(h,.zero,false,1):=by simp only [Home.handle];rw [if_pos h1]
  refine⟨Hz,?_,bad 1 hp Hz rfl⟩;rw [hp];cases hok:p.ok with
  | false=>
   rw [hok] at ck;simp only [Nat.reduceLT,Int.reduceEq,xq_,tJ,aF (aP p),pa,ck,zal,ez,z1,z2,VG,fE]
  | true=>
   rw [hok] at ck h1;by_cases hds:p.dst=me
   ·by_cases hsr:p.src < c.aG
    ·simp only [hds,hsr,decide_true,zcp,zae,zca,zaf,decide_eq_true_eq] at h1;have k1:=h1.1;have k2:=h1.2;simp only [ne_eq] at k1 k2;simp only [Nat.reduceLT,xq_,tJ,aF (aP p),pa,ck,p2,l10,hds,p1,l2,hsr,zae,zal,p0,k1,k2,ez,z1,z2,VG,fE]
    ·simp only [Nat.reduceLT,xq_,tJ,aF (aP p),pa,ck,p2,l10,hds,p1,l2,hsr,zal,ez,z1,z2,VG,fE]
   ·simp only [Nat.reduceLT,xq_,tJ,aF (aP p),pa,ck,p2,l10,hds,zal,ez,z1,z2,VG,fE]
 ·have hcond:p.ok=true/\p.dst=me/\p.src < c.aG/\(p.aO=1∨p.aO=2):=by
   simp only [zbk,za8,zcM,decide_eq_false_iff_not,zaf,decide_eq_true_eq,not_or,not_and,Classical.not_not] at h1;obtain⟨⟨⟨a1,a2⟩,a3⟩,a4⟩:=h1;refine⟨by simpa using a1,a2,a3,?_⟩;by_cases hk:p.aO=1
   ·exact .inl hk
   ·exact .inr (a4 hk)
  obtain⟨hok,hds,hsr,hkind⟩:=hcond;rw [hok] at ck;have hk12:(p.aO=1/\True)∨(¬p.aO=1/\p.aO=2):=by
   rcases hkind with hk | hk
   ·exact .inl ⟨hk,trivial⟩
   ·exact .inr ⟨by omega,hk⟩
  by_cases h2:c.bf p.aj≠me∨c.bn<=p.aj
  ·have hp:h.handle c me p=(h,.zero,false,3):=by simp only [Home.handle];rw [if_neg h1,if_pos h2]
   refine⟨Hz,?_,bad 3 hp Hz rfl⟩;rw [hp];rcases hk12 with⟨hk,_⟩ | ⟨hk0,hk⟩
   ·by_cases hh:c.bf p.aj=me
    ·have hl2:c.bn<=p.aj:=h2.resolve_left (λh=> h hh);simp only [Nat.reduceLT,Nat.reduceAdd,xq_,tJ,aF (aP p),pa,ck,p2,l10,hds,p1,l2,hsr,zae,p0,hk,la,p4,ho,hh,l3,hl2,ez,z1,z2,VG,fE]
    ·simp only [Nat.reduceLT,xq_,tJ,aF (aP p),pa,ck,p2,l10,hds,p1,l2,hsr,zae,zal,p0,hk,la,p4,ho,hh,ez,z1,z2,VG,fE]
   ·by_cases hh:c.bf p.aj=me
    ·have hl2:c.bn<=p.aj:=h2.resolve_left (λh=> h hh);simp only [Nat.reduceLT,Int.reduceEq,Nat.reduceAdd,xq_,tJ,aF (aP p),pa,ck,p2,l10,hds,p1,l2,hsr,zae,zal,p0,hk,la,p4,ho,hh,l3,hl2,ez,z1,z2,VG,fE]
    ·simp only [Nat.reduceLT,Int.reduceEq,xq_,tJ,aF (aP p),pa,ck,p2,l10,hds,p1,l2,hsr,zae,zal,p0,hk,la,p4,ho,hh,ez,z1,z2,VG,fE]
  ·have hh:c.bf p.aj=me:=Classical.byContradiction λh=> h2 (.inl h);have hl2:¬c.bn<=p.aj:=λh=> h2 (.inr h);rcases hk12 with⟨hk,_⟩ | ⟨hk0,hk⟩
   ·obtain⟨K1,a1,a2,a3⟩:=adr G2' (by simp only [H2,H1,jy];exact hb) N2.2.2 hw p.aj p.src p.id (hwl p.aj);have NK:=N2.ais { h with aT:=(h.aT.ask p.aj p.src p.id).1 };rw [yV N2] at NK;have hqt:tt≠H.next:=G.ne N.2.2
    have anx:tt≠H.next+1:=by have:=G.lt N.2.2;omega
    have k1:upd g2 tt (iC (h.aT.ask p.aj p.src p.id).1) H.next=some (p.av.map Cell.av):=by rw [aZ hqt.symm];exact hp1
    have k2:upd g2 tt (iC (h.aT.ask p.aj p.src p.id).1) (H.next+1)=some (zP9.map Cell.av):=by rw [aZ anx.symm];exact hp2
    have hbK:K1.base<=b:=by rw [a3.base];simp only [H2,H1,jy];exact hb
    have fin:∀{K2:ah} {y:List Cell},Good b K2 (upd (upd g2 tt (iC (h.aT.ask p.aj p.src p.id).1)) (H.next+1) y)->Good b K2 (kW g d tt c { h with aT:=(h.aT.ask p.aj p.src p.id).1 }):=λGk=> Gk.sub (by
     rw [yV N];refine((S2.both tt _).more (zC (G.isNone (za6 _)) anx.symm) _))
    have kk:¬((1:Int)=2):=by decide
    simp only [H2,H1] at a1;cases ha:(h.aT.ask p.aj p.src p.id).2 with
    | false=>
     have hp:h.handle c me p=({ h with aT:=(h.aT.ask p.aj p.src p.id).1 },.zero,false,0):=by
      simp only [Home.handle];rw [if_neg h1,if_neg h2,if_pos hk];rw [if_neg (by rw [ha];decide)]
     rw [hp];rw [ha] at a1;obtain⟨K2,y1,y2,y3,y4⟩:=zst a2 hbK k2 (y:=zP9) rfl rfl;refine⟨K2,?_,fin y3,(st2.trans a3).trans y4⟩;simp only [Nat.reduceLT,Nat.reduceAdd,xq_,tJ,aF (aP p),pa,ck,p2,l10,hds,p1,l2,hsr,zae,zal,p0,hk,la,p4,ho,hh,l3,hl2,lt,p3,a1,ez,y1,y2,VG,fE]
    | true=>
     have hp:h.handle c me p=({ h with aT:=(h.aT.ask p.aj p.src p.id).1 },granted h.dH me p.aj p.src p.id,true,0):=by
      simp only [Home.handle];rw [if_neg h1,if_neg h2,if_pos hk];rw [if_pos ha]
     rw [hp];rw [ha] at a1;have q1:=a2.load k1 (i:=1) (x:=I p.src) rfl;have q3:=a2.load k1 (i:=3) (x:=I p.id) rfl;have q4:=a2.load k1 (i:=4) (x:=I p.aj) rfl;have gr:=J3 a2 NK hr p.aj p.src p.id;obtain⟨K2,y1,y2,y3,y4⟩:=zst a2 hbK k2 (y:=(granted h.dH me p.aj p.src p.id).av) (bT _) (aP _);refine⟨K2,?_,fin y3,(st2.trans a3).trans y4⟩;simp only [Nat.reduceLT,Nat.reduceAdd,xq_,tJ,aF (aP p),pa,ck,p2,l10,hds,p1,l2,hsr,zae,p0,hk,la,p4,ho,hh,l3,hl2,lt,p3,a1,q1,q3,q4,gr,y1,y2,VG]
   ·obtain⟨K1,a1,a2,a3⟩:=aaO G2' (by simp only [H2,H1,jy];exact hb) N2 p hl;have hqt:tt≠H.next:=G.ne N.2.2
    have anx:tt≠H.next+1:=by have:=G.lt N.2.2;omega
    have hqd:d≠H.next:=G.ne N.2.1
    have aqo:d≠H.next+1:=by have:=G.lt N.2.1;omega
    have k1:kW g2 d tt c (h.unlock c p).1 H.next=some (p.av.map Cell.av):=by unfold kW;rw [aZ hqt.symm,aZ hqd.symm];exact hp1
    have k2:kW g2 d tt c (h.unlock c p).1 (H.next+1)=some (zP9.map Cell.av):=by unfold kW;rw [aZ anx.symm,aZ aqo.symm];exact hp2
    have NK:=N2.ais (h.unlock c p).1;have hbK:K1.base<=b:=by rw [a3.base];simp only [H2,H1,jy];exact hb
    have fin:∀{K2:ah} {y:List Cell},Good b K2 (upd (kW g2 d tt c (h.unlock c p).1) (H.next+1) y)->Good b K2 (kW g d tt c (h.unlock c p).1):=λGk=> Gk.sub (by
     refine((Ql S2 _).more ?_ _);unfold kW;rw [aZ anx.symm,aZ aqo.symm];exact G.isNone (za6 _))
    have kk:¬((2:Int)=1):=by decide
    simp only [H2,H1] at a1;by_cases hz:(h.unlock c p).2=0
    ·have hp:h.handle c me p=((h.unlock c p).1,⟨8,me,p.src,p.id,p.aj,0,0,false,[]⟩,true,0):=by
      simp only [Home.handle];rw [if_neg h1,if_neg h2,if_neg hk0,if_pos hz]
     rw [hp];rw [hz] at a1;have q1:=a2.load k1 (i:=1) (x:=I p.src) rfl;have q3:=a2.load k1 (i:=3) (x:=I p.id) rfl;have q4:=a2.load k1 (i:=4) (x:=I p.aj) rfl;have q10:=a2.load NK.1 (i:=10) (x:=I me) rfl;have hd0:dat ([]:List Int)=zN:=by simp [dat,gZ]
     obtain⟨K2,y1,y2,y3,y4⟩:=zst a2 hbK k2 (y:=(Pkt.mk 8 me p.src p.id p.aj 0 0 false []).av) (bT _) (aP _);refine⟨K2,?_,fin y3,(st2.trans a3).trans y4⟩;have eb:bd 81 [(0,I 8),(1,I me),(2,I p.src),(3,I p.id),(4,I p.aj)]=some (.agg (Pkt.mk 8 me p.src p.id p.aj 0 0 false []).av):=by
      simp only [xq_,yO,jX,gI,RH,Pkt.av,hd0];rfl
     simp only [Nat.reduceLT,Nat.reduceAdd,xq_,tJ,aF (aP p),pa,ck,p2,l10,hds,p1,l2,hsr,zae,zal,p0,hk,kk,la,p4,ho,hh,l3,hl2,a1,q10,q1,q3,q4,eb,y1,y2,VG]
    ·have hp:h.handle c me p=((h.unlock c p).1,.zero,false,(h.unlock c p).2):=by
      simp only [Home.handle];rw [if_neg h1,if_neg h2,if_neg hk0,if_neg hz]
     rw [hp];obtain⟨K2,y1,y2,y3,y4⟩:=zst a2 hbK k2 (y:=zP9) rfl rfl;refine⟨K2,?_,fin y3,(st2.trans a3).trans y4⟩;simp only [Nat.reduceLT,Nat.reduceAdd,xq_,tJ,aF (aP p),pa,ck,p2,l10,hds,p1,l2,hsr,zae,zal,p0,hk,kk,la,p4,ho,hh,l3,hl2,a1,hz,ez,y1,y2,VG,fE]
end
theorem aaQ(l:List Int):(l.mergeSort λx y=> decide (x<=y))=srt [] l:=by
 have tr:∀a b c:Int,decide (a<=b)=true->decide (b<=c)=true->decide (a<=c)=true:=λa b c h1 h2=> by simp only [decide_eq_true_eq] at*;omega
 have to:∀a b:Int,(decide (a<=b) || decide (b<=a))=true:=λa b=> by simp only [zbk,decide_eq_true_eq];omega
 exact(akl (List.mergeSort_perm l _).symm ((List.pairwise_mergeSort tr to l).imp λh=> of_decide_eq_true h)).symm
theorem adz(l:List Int):YX l=dat (srt [] l):=by
 unfold YX;split
 ·rename_i h;subst h;simp [dat,gZ,srt,ai2]
 ·rename_i h;have hp:=(xE l [] List.Pairwise.nil).1;have hl:(srt [] l).length=l.length:=hp.length_eq;have hne:srt [] l≠[]:=λe=> h (by rw [e] at hl;exact zas hl.symm);rw [yD hne,aaQ,hl]
section
variable {b:Nat}{H:ah}{g:bD}{q d tt:Nat}{c:Cfg}{me:Int}{h:Home}
structure TOk(t:Turns):Prop where
 nd:(t.wait.map (·.1)).Nodup
 key:∀e∈t.wait,0<=e.1/\e.1 < 1000
 len:t.wait.length < 1000
 ws:∀aj,(t.ws aj).length < 1000000
theorem J4(G:Good b H g){t:Turns}(h:g q=some (iC t))(T:TOk t):cl 193 [.ref q 0 0] H=some (dat (t.ready (srt [] (t.wait.map (·.1)))),H):=by
 obtain⟨r,aes,f1,f2,f3,f4⟩:=G.guard.aie h (i:=1) rfl;have f4:aes.map (·.1)=t.wait.map (·.1):=by rw [f4];simp
 let H1:=H.guard.new (.blk 0 216 [.mp r]);have k1:cl 224 [.mp r] H.guard=some (.fn (.func 239) [] [.ref H.next 0 0],H1):=by
  refine bg rfl rfl (amG _ _ _ ?_);have eb:jc 216 (.mp r) H.guard=some (.ref H.next 0 0,H1):=rfl;simp only [xq_,agk,eb]
 have k2:cl 45 [.fn (.func 239) [] [.ref H.next 0 0]] H1=some (dat (srt [] (t.wait.map (·.1))),H1):=by
  refine FT (p:=BJ Dx JG) rfl ?_;have g1:H1.get H.next=.blk 0 216 [.mp r]:=bF rfl
  have g2:H1.get r=.map .i64 aes:=by rw [<-f3];exact cZ f2
  have hc:(True/\216 < gV/\239≠0/\239∈Dx/\(aes.map (·.1)).Nodup/\(aes.all λe=> (Lit.int .i64 e.1).wf)=true/\aes.length<=1000000):=by
   refine⟨trivial,by unfold gV;decide,by decide,by simp [Dx],by rw [f4];exact T.nd,?_,?_⟩
   ·rw [za2];intro e he;have:e.1∈t.wait.map (·.1):=by rw [<-f4];exact zaH.2 ⟨e,he,rfl⟩
    obtain⟨x,hx,hxe⟩:=zaH.1 this;have:=T.key x hx;have m1:IntKind.min .i64=-9223372036854775808:=rfl;have m2:IntKind.max .i64=9223372036854775807:=rfl;simp only [Lit.wf,m1,m2,zaf,decide_eq_true_eq];rw [<-hxe];omega
   ·have:=congrArg List.length f4;simp only [zaD] at this;have:=T.len;omega
  simp only [BJ,g1,g2];rw [if_pos hc,f4,adz]
 have hsp:=xE (t.wait.map (·.1)) [] List.Pairwise.nil;obtain⟨K,hK0⟩:∃K,K=srt [] (t.wait.map (·.1)):=⟨_,rfl⟩
 rw [<-hK0] at k2 hsp ⊢;have hK:K.length < 1000:=by have:=hsp.1.length_eq;simp only [zaJ,zaD] at this;have:=T.len;omega
 have hs:∀H',aW H' (dat K) 1 K.length (K.map I):=λH'=> mQ H' K;let p:Int->Bool:=λaj=> !t.owned aj && !(t.ws aj).isEmpty
 let F:Nat->List Int:=λj=> (K.take j).filter p
 have key:∀k j,j+k=K.length->∀(Hi:ah) (o:AV),Own H.next Hi o 1 ((F j).map I)->(F j=[]->o=zN)->Step H.next H.guard Hi->
   ∃y Hz,EF cl [.ref q 0 0,o,dat K,I K.length,I j] Hi=some (y,Hz)/\Own H.next Hz y 1 ((t.ready K).map I)/\(t.ready K=[]->y=zN):=by
  intro k
  induction k with
  | zero=>
   intro j hj Hi o O z s;have h1:¬(j:Int) < K.length:=by omega
   have:F j=t.ready K:=by
    simp only [F,Turns.ready,p];rw [zaz (by omega)]
   rw [this] at O z;refine⟨o,Hi,?_,O,z⟩;rw [U9];simp only [xq_,h1]
  | succ k ih=>
   intro j hj Hi o O z s;have h1:(j:Int) < K.length:=by omega
   have h6:(j:Int)+1=((j+1:Nat):Int):=by omega
   have h7:=wrap_i64 (a:=((j+1:Nat):Int)) (by omega) (by omega);have sb:Hi.base=H.next:=s.base
   have sn:H.next<=Hi.next:=s.next
   obtain⟨e,he⟩:∃e,K[j]?=some e:=⟨_,zab (by omega)⟩
   have s1:=(hs Hi).ix (k:=.i64) (i:=(j:Int)) (by omega) h1;rw [zat] at s1;have s2:=(hs Hi).ld (i:=j) (by omega);rw [zaR,he] at s2;simp only [zak] at s2;have Gi:Good b Hi g:=G.guard.ext s.next s.low
   have o1:=xM Gi h e;have w1:=wQ Gi h e;have hFs:F (j+1)=F j++if p e=true then [e] else []:=by
    simp only [F,zdH,he,zcH,zcg]
    congr 1
    cases hp:p e <;> simp [hp]
   have hm:(F j).length<=j:=zau (zcn _ _) (by rw [zax];omega);rw [U9];cases hp:p e with
   | true=>
    rw [hp,if_pos rfl] at hFs;have ho:t.owned e=false:=by simp only [p,zaf,za8] at hp;exact hp.1
    have hw:(0:Int) < (t.ws e).length:=by
     simp only [p,zaf,za8] at hp;cases hz:t.ws e with
     | nil=> rw [hz] at hp;simp at hp
     | cons a l=> simp only [zam];omega
    obtain⟨o',H2,t1,t2,t3⟩:=(O.new (.blk 0 3 [I e])).step (n:=(F j).length) (k:=1) (e:=3) (by_:=8) (y:=.sl Hi.next 0 0 1 1 1 true) (new:=[I e]) (by simp only [fA];omega) (by simp only [jy];omega) (by decide) (by simp) (ku rfl) rfl (by unfold most;omega) (by unfold most;omega);obtain⟨y,Hz,r1,r2⟩:=ih (j+1) (by omega) H2 o' (by rw [hFs,zbj];exact t2) (λhz=> by rw [hFs] at hz;simp at hz) ((s.trans (Step.new _ sn)).trans t3);refine⟨y,Hz,?_,r2⟩;rw [ho] at o1;have eb:∀H,bs 22 1 [(0,I e)] H=some (.sl H.next 0 0 1 1 1 true,H.new (.blk 0 3 [I e])):=λH=> (IG (by decide)).trans (jS rfl rfl rfl);simp only [xq_,h1,s1,s2,o1,w1,hw,zal,eb,t1,Aa,dF,h6,h7];exact r1
   | false=>
    rw [hp,if_neg (by simp),zbl] at hFs;obtain⟨y,Hz,r1,r2⟩:=ih (j+1) (by omega) Hi o (by rw [hFs];exact O) (by rw [hFs];exact z) s;refine⟨y,Hz,?_,r2⟩;cases ho:t.owned e with
    | true=>
     rw [ho] at o1;simp only [xq_,h1,s1,s2,o1,zae,Aa,dF,h6,h7];exact r1
    | false=>
     rw [ho] at o1;have hw:¬(0:Int) < (t.ws e).length:=by
      simp only [p,ho,zal,zaU,Bool.not_eq_false'] at hp;rw [List.isEmpty_iff] at hp;rw [hp];decide
     simp only [xq_,h1,s1,s2,o1,w1,hw,zal,Aa,dF,h6,h7];exact r1
 obtain⟨y,Hz,r1,r2,r3⟩:=key K.length 0 (by omega) H1 zN (.inl ⟨rfl,rfl⟩) (λ_=> rfl) (Step.new _ (zac _));refine jq rfl rfl (ama _ _ _ (r:=(y,Hz)) ?_) ?_
 ·have e2:=(hs H1).lnS;simp only [H1] at k1 k2 e2 r1;simp only [xq_,afZ,f1,k1,k2,e2];exact r1
 ·by_cases hz:t.ready K=[]
  ·rw [r3 hz,hz];simp only [dat,gZ];exact jC
  ·rw [yD hz];exact JU r2 (by decide) (by simp) (λy hy=> xJ (d:=7) _ y hy _ _) (λe=> hz (zas e))
end
def Off(S:Nat->Prop)(g g':bD):Prop:=∀q,¬S q->g' q=g q
theorem Off.refl(S:Nat->Prop)(g:bD):Off S g g:=λ_ _=> rfl
theorem Off.trans {S:Nat->Prop}{g g' g'':bD}(h:Off S g g')(h':Off S g' g''):Off S g g'':=λq hq=> (h' q hq).trans (h q hq)
theorem Off.upd {S:Nat->Prop}{g:bD}{q:Nat}{cs:List Cell}(h:S q):Off S g (upd g q cs):=λx hx=> by
 rw [aZ];intro e;subst e;exact hx h
theorem Off.mono {S T:Nat->Prop}{g g':bD}(h:Off S g g')(hs:∀q,S q->T q):Off T g g':=λq hq=> h q λh'=> hq (hs q h')
def NY(P:Nat->Nat->Nat)(n:Nat)(q:Nat):Prop:=∃i s,i < n/\s < 4/\q=P i s
def QN(p:Port):Nat->List Pkt
 | 0=> p.rq
 | 1=> p.rin
 | 2=> p.an
 | _=> p.ain
def NZ(c:Cfg):Nat->Int
 | 0=> c.out
 | 1=> c.inn
 | 2=> c.out
 | _=> 1
def oIx(req:Bool):Nat:=if req then 0 else 2
def iIx(req:Bool):Nat:=if req then 1 else 3
theorem gG {g:bD}{a:Nat->Nat}{c:Cfg}{p:Port}(h:vM g a c p):∀{s:Nat},s < 4->g (a s)=some (mZ (QN p s) (NZ c s)):=λ{s} hs=> by
 obtain⟨h0,h1,h2,h3⟩:=h
 match s,hs with
 | 0,_=> exact h0
 | 1,_=> exact h1
 | 2,_=> exact h2
 | 3,_=> exact h3
theorem Au {g:bD}{a:Nat->Nat}{c:Cfg}{p:Port}(h:∀s,s < 4->g (a s)=some (mZ (QN p s) (NZ c s))):vM g a c p:=
 ⟨h 0 (by decide),h 1 (by decide),h 2 (by decide),h 3 (by decide)⟩
theorem Aw(p:Port)(req:Bool):QN p (oIx req)=p.sort req:=by cases req <;> rfl
theorem Ib(p:Port)(req:Bool):QN p (iIx req)=p.qL req:=by cases req <;> rfl
theorem rH(c:Cfg)(req:Bool):NZ c (oIx req)=c.out:=by cases req <;> rfl
theorem tZ(req:Bool):oIx req < 4:=by cases req <;> decide
theorem rJ(req:Bool):iIx req < 4:=by cases req <;> decide
theorem yX(p:Port)(req:Bool)(l:List Pkt)(s:Nat)(hs:s < 4):QN (p.kC req l) s=if s=oIx req then l else QN p s:=by
 match s,hs with
 | 0,_=> cases req <;> rfl
 | 1,_=> cases req <;> rfl
 | 2,_=> cases req <;> rfl
 | 3,_=> cases req <;> rfl
theorem CO(p:Port)(req:Bool)(l:List Pkt)(s:Nat)(hs:s < 4):QN (p.kM req l) s=if s=iIx req then l else QN p s:=by
 match s,hs with
 | 0,_=> cases req <;> rfl
 | 1,_=> cases req <;> rfl
 | 2,_=> cases req <;> rfl
 | 3,_=> cases req <;> rfl
section
variable {b:Nat}{H:ah}{g:bD}{f:Nat}{P:Nat->Nat->Nat}{c:Cfg}{fab:Fab}
theorem gY.sub {g':bD}(F:gY g f P c fab)(hs:sW g g'):gY g' f P c fab:=
 ⟨hs _ _ F.1,λi p hp=> by obtain⟨a,b,c,d⟩:=F.2.1 i p hp;exact⟨hs _ _ a,hs _ _ b,hs _ _ c,hs _ _ d⟩,F.2.2⟩
theorem gY.fne(F:gY g f P c fab){i s:Nat}(hi:i < fab.l.length)(hs:s < 4):f≠P i s:=λe=> by
 have h1:=F.1;have h2:=gG (F.port hi) hs;rw [<-e,h1] at h2;have:=congrArg List.length (zaZ h2);simp [ac9,mZ] at this
theorem gY.fill(F:gY g f P c fab)(J:SS P fab.l.length){i s:Nat}(hi:i < fab.l.length)(hs:s < 4){p':Port}{l:List Pkt}(hp:∀t,t < 4->QN p' t=if t=s then l else QN (fab.port i) t):
  gY (upd g (P i s) (mZ l (NZ c s))) f P c (fab.put i p'):=by
 have hlen:(fab.put i p').l.length=fab.l.length:=by simp [Fab.put]
 refine⟨by rw [hlen,aZ (F.fne hi hs)];exact F.1,λj p hj=> ?_,F.2.2⟩;simp only [Fab.put,zat] at hj;have hjl:j < fab.l.length:=by have:=(zai.1 hj).1;simpa using this
 by_cases hij:i=j
 ·subst hij;rw [zbd hi] at hj;cases hj;refine Au λt ht=> ?_;rw [hp t ht];by_cases hts:t=s
  ·subst hts;rw [if_pos rfl,aU]
  ·rw [if_neg hts,aZ (λe=> hts (J _ _ _ _ hi hi ht hs e).2)];exact gG (F.port hi) ht
 ·rw [zbm hij] at hj;refine Au λt ht=> ?_;rw [aZ (λe=> hij (J _ _ _ _ hjl hi ht hs e).1.symm)];have:=gG (F.2.1 j p hj) ht;exact this
theorem Az {i:Int}(hi:fab.is i=true):∃n:Nat,i=n/\n < fab.l.length:=by
 simp only [Fab.is,zaf,decide_eq_true_eq] at hi;exact⟨i.toNat,by omega,by omega⟩
def adA(a:Nat->Nat)(req:Bool):List AV:=[.ref (a (oIx req)) 0 0,.ref (a (iIx req)) 0 0]
theorem EX(H:ah)(hb:H.base<=H.next)(a:Nat->Nat)(req:Bool):∃H',cl 91 [.agg (nV a),B req] H=some (.agg (adA a req),H')/\Made H H' Aj:=by
 refine kD rfl rfl (apr _ _ _ _) ?_;have ap:(nV a).all AV.aX=true:=rfl;cases req with
 | true=>
  refine⟨(H.new (.blk 0 142 (nV a))).new (.blk 0 121 (adA a true)),?_,((Made.refl hb).new _).new _⟩;simp only [Nat.reduceLT,Nat.reduceAdd,aN,xq_,hq_,ahJ,nV,adA,oIx,iIx,aF,hb]
 | false=>
  refine⟨(H.new (.blk 0 142 (nV a))).new (.blk 0 121 (adA a false)),?_,((Made.refl hb).new _).new _⟩;simp only [Nat.reduceLT,Nat.reduceAdd,aN,xq_,hq_,ahJ,nV,adA,oIx,iIx,aF,hb]
theorem AA(G:Good b H g)(F:gY g f P c fab){i:Nat}(hi:i < fab.l.length):∃x r gg o,ld (.ref f 0 0) H=some (x,H)/\ix 4 x (I i) H=some (.ref r gg o,H)/\lda 4 (.ref r gg o) H=some (.agg (nV (P i)),H):=by
 obtain⟨x,hx,cu⟩:=G.seq F.1 (i:=0) rfl;obtain⟨r,gg,o,a1,_,a3⟩:=cu.elemAt (by decide) (oJ P _) hi;have hr:(List.range fab.l.length)[i]?=some i:=zbB hi;have:=uK (enc:=λi=> nV (P i)) (m:=4) (λ_=> rfl) (List.range fab.l.length) i i hr;rw [this] at a3;exact⟨x,r,gg,o,hx,a1 .i64,a3⟩
structure FOk(c:Cfg)(fab:Fab):Prop where
 ok:c.ok=true
 len:fab.l.length < 1000
 box:∀p∈fab.l,∀s,s < 4->((QN p s).length:Int)<=NZ c s
 dat:∀p∈fab.l,∀s,s < 4->∀q∈QN p s,q.data.length < 1000000000
theorem J5 {c:Cfg}(h:c.ok=true)(s:Nat):0<=NZ c s/\NZ c s < 1000:=by
 have B:=Ak h;have:=B.out;have:=B.inn;unfold NZ;split <;> omega
theorem FOk.small {c:Cfg}{fab:Fab}(K:FOk c fab){p:Port}(hp:p∈fab.l){s:Nat}(hs:s < 4):(QN p s).length < 1000:=by
 have:=K.box p hp s hs;have:=(J5 K.ok s).2;omega
theorem Fab.uV {fab:Fab}{i:Nat}(hi:i < fab.l.length):fab.port i∈fab.l:=by
 unfold Fab.port;rw [zat,zaF,zab hi];exact zcO hi
theorem ait(G:Good b H g)(hb:H.base<=b)(F:gY g f P c fab)(K:FOk c fab)(i:Int)(req:Bool):∃H',cl 141 [.ref f 0 0,I i,B req] H=some (I (fab.roomOf i req),H')/\Good b H' g/\Step b H H':=by
 refine kD rfl rfl (alA _ _ _ _ _) ?_;have e1:=Aq G F K.len i;cases hi:fab.is i with
 | false=>
  rw [hi] at e1;refine⟨H,?_,G,Step.refl _ _⟩;have:fab.roomOf i req=0:=by simp [Fab.roomOf,hi]
  simp only [xq_,ZC,e1,zal,this]
 | true=>
  rw [hi] at e1;obtain⟨n,rfl,hn⟩:=Az hi;obtain⟨x,r,gg,o,h1,h2,h3⟩:=AA G F hn;obtain⟨H1,s1,s2⟩:=EX H (zau hb G.1) (P n) req;have G1:Good b H1 g:=G.ext s2.next s2.same
  have hbx:=gG (F.port hn) (tZ req);have e2:=Vj G1 hbx (J5 K.ok _).1 (J5 K.ok _).2 (K.small (Fab.uV hn) (tZ req));rw [Aw,rH,<-F.2.2.1] at e2;refine⟨H1,?_,G1,⟨s2.base,s2.next,λr hr=> s2.same r (zav hr G.1)⟩⟩;have hro:fab.roomOf n req=fab.out - ((fab.port n).sort req).length:=by unfold Fab.roomOf;rw [if_pos hi]
  have l0:(adA (P n) req)[0]?=some (.ref (P n (oIx req)) 0 0):=rfl;simp only [xq_,ZC,e1,zae,h1,h2,h3,s1,l0,e2,hro]
theorem aiu(G:Good b H g)(hb:H.base<=b)(F:gY g f P c fab)(J:SS P fab.l.length)(K:FOk c fab)(p:Pkt)(hl:p.data.length < 1000000000):
  ∃H' g',cl 143 [.ref f 0 0,.agg p.av] H=some (I (fab.send p).2,H')/\Good b H' g'/\gY g' f P c (fab.send p).1/\Off (NY P fab.l.length) g g'/\Step b H H':=by
 have hb0:H.base<=H.next:=zau hb G.1
 let H1:=H.new (.blk 0 81 p.av);have G1:Good b H1 g:=G.new _;have ck:=Ar H1 p;have e1:=Aq G1 F K.len p.src;have e2:=Aq G1 F K.len p.dst;by_cases hbad:(!p.ok || !fab.is p.src || !fab.is p.dst)=true
 ·have hp:fab.send p=(fab,1):=by simp only [Fab.send];rw [if_pos hbad]
  rw [hp];refine⟨H1,g,bg rfl rfl (afy _ _ _ _ ?_),G1,F,Off.refl _ _,Step.new _ G.1⟩;simp only [H1] at ck e1 e2 ⊢;have f1:p.av[1]?=some (I p.src):=rfl;have f2:p.av[2]?=some (I p.dst):=rfl;cases hok:p.ok with
  | false=>
   rw [hok] at ck;simp only [Nat.reduceLT,Int.reduceEq,xq_,hq_,PD,aF (aP p),ck,zal]
  | true=>
   rw [hok] at ck hbad;cases hs:fab.is p.src with
   | false=>
    rw [hs] at e1;simp only [Nat.reduceLT,xq_,hq_,PD,aF (aP p),ck,zae,f1,e1,zal]
   | true=>
    rw [hs] at e1 hbad;have hd:fab.is p.dst=false:=by simpa using hbad
    rw [hd] at e2;simp only [Nat.reduceLT,xq_,hq_,PD,aF (aP p),ck,zae,f1,f2,e1,e2,zal]
 ·have hcond:p.ok=true/\fab.is p.src=true/\fab.is p.dst=true:=by
   cases h1:p.ok <;> cases h2:fab.is p.src <;> cases h3:fab.is p.dst <;> simp_all
  obtain⟨hok,hs,hd⟩:=hcond;rw [hok] at ck;rw [hs] at e1;rw [hd] at e2;obtain⟨n,hsn,hn⟩:=Az hs;obtain⟨x,r,gg,o,h1,h2,h3⟩:=AA G1 F hn;let req:=qK p.aO;have rq:=JX H1.guard p.aO;obtain⟨K1',s1,s2⟩:=EX H1.guard (zac _) (P n) req;obtain⟨K1,s1,s2⟩:=drawn s1 s2;have G2:Good b K1 g:=G1.ext s2.next s2.same
  have hbx:=gG (F.port hn) (tZ req);have hbK:K1.base<=b:=by rw [s2.base];exact hb
  obtain⟨H',q1,q2,q3⟩:=ahN G2 hbK hbx (J5 K.ok _).1 (J5 K.ok _).2 (K.small (Fab.uV hn) (tZ req)) p hl;have g1:K1.get H.next=.blk 0 81 p.av:=by rw [s2.same _ (by simp only [H1,fA];omega)];exact bF rfl
  have l9:lda 9 (.ref H.next 0 0) K1=some (.agg p.av,K1):=by
   rw [gy (off:=0) (n:=9) g1 (by rw [bT];exact zac _),zaQ,O6]
  rw [Aw,rH] at q1;have hout:fab.out=c.out:=F.2.2.1;have hle:=K.box _ (Fab.uV hn) _ (tZ req);rw [Aw,rH] at hle;have f0:p.av[0]?=some (I p.aO):=rfl;have f1:p.av[1]?=some (I p.src):=rfl;have f2:p.av[2]?=some (I p.dst):=rfl;have l0:(adA (P n) req)[0]?=some (.ref (P n (oIx req)) 0 0):=rfl;have run:∀v,cl 197 [.ref (P n (oIx req)) 0 0,.agg p.av] K1=some (v,H')->cl 143 [.ref f 0 0,.agg p.av] H=some (v,H'):=λv q1=> by
   refine bg rfl rfl (afy _ _ _ _ ?_);rw [hsn] at f1 e1;simp only [H1,req] at ck e1 e2 rq h1 h2 h3 s1 l0 q1;simp only [Nat.reduceLT,xq_,hq_,PD,aF (aP p),ck,zae,f0,f1,f2,e1,e2,h1,h2,h3,rq,s1,l0,l9,q1]
  have st0:Step b H K1:=(Step.new _ G.1).trans ⟨s2.base,s2.next,λr hr=> s2.same r (zav hr G1.1)⟩;have hset:Off (NY P fab.l.length) g (upd g (P n (oIx req)) (mZ (if NZ c (oIx req)=((QN (fab.port n) (oIx req)).length:Int) then QN (fab.port n) (oIx req) else QN (fab.port n) (oIx req)++[p]) (NZ c (oIx req)))):=Off.upd ⟨n,oIx req,hn,tZ req,rfl⟩;rw [Aw,rH] at q2 hset;by_cases hfull:c.out=(((fab.port n).sort req).length:Int)
  ·have hp:fab.send p=(fab,5):=by
    simp only [Fab.send];rw [if_neg hbad,hsn,hout,if_pos (Int.le_of_eq hfull)]
   rw [if_pos hfull] at q1 q2 hset;rw [fF (by rw [gG (F.port hn) (tZ req),Aw,rH])] at q2;rw [hp];exact⟨H',g,run _ q1,q2,F,Off.refl _ _,st0.trans q3⟩
  ·have hp:fab.send p=(fab.put n ((fab.port n).kC req ((fab.port n).sort req++[p])),0):=by
    simp only [Fab.send];rw [if_neg hbad,hsn,hout,if_neg (λh=> hfull (Int.le_antisymm h hle))]
   rw [if_neg hfull] at q1 q2 hset;rw [hp];refine⟨H',_,run _ q1,q2,?_,hset,st0.trans q3⟩;have:=F.fill J hn (tZ req) (p':=(fab.port n).kC req ((fab.port n).sort req++[p])) (l:=(fab.port n).sort req++[p]) (yX _ _ _);rw [rH] at this;exact this
end
section
variable {b:Nat}{H:ah}{g:bD}{f:Nat}{P:Nat->Nat->Nat}{c:Cfg}{fab:Fab}
theorem gY.ara(G:Good b H g)(F:gY g f P c fab){q:Nat}(h:NY P fab.l.length q):q < H.next:=by
 obtain⟨i,s,hi,hs,rfl⟩:=h;exact G.lt (gG (F.port hi) hs)
theorem gY.Tv(G:Good b H g)(F:gY g f P c fab):¬NY P fab.l.length H.next:=λh=> Nat.lt_irrefl _ (F.ara G h)
theorem aiv {K:ah}{gk:bD}{r:Nat}{ys:List AV}(Gk:Good b K gk)(hk:K.base<=b)(hz:gk r=some (ys.map Cell.av))(hy:ys.length=9){y:List AV}(h9:y.length=9)(ha:y.all AV.aX=true):
  ∃K',st 9 (.ref r 0 0) (.agg y) K=some (aY,K')/\lda 9 (.ref r 0 0) K'=some (.agg y,K')/\Good b K' (upd gk r (y.map Cell.av))/\Step b K K':=by
 obtain⟨K',t1,t2,t3,t4⟩:=Gk.stores hk hz (i:=0) (n:=9) (vs:=y) (by simp [hy]) h9 ha;have e:pG (ys.map Cell.av) 0 y=y.map Cell.av:=by
  unfold pG;rw [zaS (by simp [h9,hy])];simp
 rw [e] at t2;exact⟨K',t1,t2.loads aU (i:=0) (n:=9) (xs:=y) (by rw [zaQ,zaz (by simp [h9])]) h9 (by decide),t2,t3⟩
theorem aaR(G:Good b H g)(hb:H.base<=b)(F:gY g f P c fab)(J:SS P fab.l.length)(K:FOk c fab)(i:Int)(req:Bool):
  ∃H' g',cl 183 [.ref f 0 0,I i,B req] H=some (iy (fab.take i req).2,H')/\Good b H' g'/\gY g' f P c (fab.take i req).1/\Off (NY P fab.l.length) g g'/\Step b H H':=by
 have hb0:H.base<=H.next:=zau hb G.1
 have G1:=G.newObj (ty:=81) (xs:=zP9) rfl;have S1:sW g (upd g H.next (zP9.map Cell.av)):=(sW.refl g).more (G.isNone (zac _)) _;have F1:=F.sub S1;have e1:=Aq G1 F1 K.len i;have ez:bd 81 []=some (.agg zP9):=by simp only [xq_,yO,jX,dX]
 cases hi:fab.is i with
 | false=>
  rw [hi] at e1;have hp:fab.take i req=(fab,none):=by simp [Fab.take,hi]
  rw [hp];obtain⟨K',t1,t2,t3,t4⟩:=aiv G1 (by rw [jy];exact hb) aU rfl (y:=zP9) rfl rfl;refine⟨K',g,bg rfl rfl (afV _ _ _ _ _ ?_),t3.sub (by rw [rV];exact S1),F,Off.refl _ _,(Step.new _ G.1).trans t4⟩;simp only [xq_,ZN,e1,zal,ez,t1,t2,iy,za1,zaG,fE]
 | true=>
  rw [hi] at e1;obtain⟨n,rfl,hn⟩:=Az hi;obtain⟨x,r,gg,o,h1,h2,h3⟩:=AA G1 F1 hn;obtain⟨K1,s1,s2⟩:=EX (H.new (.blk 0 81 zP9)) (by rw [jy,fA];omega) (P n) req;have G2:Good b K1 _:=G1.ext s2.next s2.same
  have hbx:=gG (F1.port hn) (rJ req);have hbK:K1.base<=b:=by rw [s2.base,jy];exact hb
  have st1:Step b H K1:=(Step.new _ G.1).trans ⟨s2.base,s2.next,λr hr=> s2.same r (zav hr G1.1)⟩;obtain⟨K2,q1,q2,q3⟩:=aae G2 hbK hbx (K.small (Fab.uV hn) (rJ req)) (K.dat _ (Fab.uV hn) _ (rJ req));have hpn:P n (iIx req)≠H.next:=λe=> F.Tv G ⟨n,iIx req,hn,rJ req,e.symm⟩
  rw [Ib] at q1 q2;obtain⟨K3,t1,t2,t3,t4⟩:=aiv q2 (by rw [q3.base];exact hbK) (r:=H.next) (ys:=zP9) (by rw [aZ hpn.symm,aU]) rfl (y:=(((fab.port n).qL req).head?.getD .zero).av) (bT _) (aP _);have l1:(adA (P n) req)[1]?=some (.ref (P n (iIx req)) 0 0):=rfl;have run:cl 183 [.ref f 0 0,I n,B req] H=some (iy ((fab.port n).qL req).head?,K3):=by
   refine bg rfl rfl (afV _ _ _ _ _ ?_);simp only [iy] at q1;simp only [xq_,ZN,e1,zae,h1,h2,h3,s1,l1,q1,t1,t2,iy]
  have hsub:sW (upd g (P n (iIx req)) (mZ ((fab.port n).qL req).tail (NZ c (iIx req)))) (upd (upd (upd g H.next (zP9.map Cell.av)) (P n (iIx req)) (mZ ((fab.port n).qL req).tail (NZ c (iIx req)))) H.next ((((fab.port n).qL req).head?.getD .zero).av.map Cell.av)):=
   (S1.both _ _).more (zC (G.isNone (zac _)) hpn.symm) _
  have G3:=t3.sub hsub;cases hz:(fab.port n).qL req with
  | nil=>
   have hp:fab.take n req=(fab,none):=by simp [Fab.take,hi,hz]
   rw [hz] at run G3;rw [hp];rw [List.tail_nil,fF (by rw [gG (F.port hn) (rJ req),Ib,hz])] at G3;exact⟨K3,g,run,G3,F,Off.refl _ _,(st1.trans q3).trans t4⟩
  | cons p l=>
   have hp:fab.take n req=(fab.put n ((fab.port n).kM req l),some p):=by simp [Fab.take,hi,hz]
   rw [hz] at run G3;rw [hp];refine⟨K3,_,run,G3,?_,Off.upd ⟨n,iIx req,hn,rJ req,rfl⟩,(st1.trans q3).trans t4⟩;exact F.fill J hn (rJ req) (p':=(fab.port n).kM req l) (l:=l) (CO _ _ _)
theorem CQ(G:Good b H g)(hb:H.base<=b)(F:gY g f P c fab)(J:SS P fab.l.length)(K:FOk c fab)(i:Int):
  ∃H' g',cl 144 [.ref f 0 0,I i] H=some (iy (fab.take i true).2,H')/\Good b H' g'/\gY g' f P c (fab.take i true).1/\Off (NY P fab.l.length) g g'/\Step b H H':=by
 have G1:=G.newObj (ty:=81) (xs:=zP9) rfl;have S1:sW g (upd g H.next (zP9.map Cell.av)):=(sW.refl g).more (G.isNone (zac _)) _;have F1:=F.sub S1;obtain⟨K1,g',q1,q2,q3,q4,q5⟩:=aaR G1 (by rw [jy];exact hb) F1 J K i true;have hg':g' H.next=some (zP9.map Cell.av):=by rw [q4 _ (F.Tv G),aU]
 obtain⟨K2,t1,t2,t3,t4⟩:=aiv q2 (by rw [q5.base,jy];exact hb) hg' rfl (y:=((fab.take i true).2.getD .zero).av) (bT _) (aP _);let g2:bD:=λq=> if q=H.next then none else g' q
 have hn:g H.next=none:=G.isNone (zac _)
 have F2:gY g2 f P c (fab.take i true).1:=by
  have ne:∀q cs,g' q=some cs->q≠H.next->g2 q=some cs:=λq cs h1 h2=> by simp only [g2];rw [if_neg h2];exact h1
  have hlen:(fab.take i true).1.l.length=fab.l.length:=by
   unfold Fab.take;split
   ·split
    ·rfl
    ·simp [Fab.put]
   ·rfl
  have fn:f≠H.next:=G.ne F.1
  refine⟨ne _ _ q3.1 fn,λj p hj=> Au λs hs=> ne _ _ (gG (q3.2.1 j p hj) hs) λe=> ?_,q3.2.2⟩;have hjl:j < fab.l.length:=by rw [<-hlen];exact(zai.1 hj).1
  exact F.Tv G ⟨j,s,hjl,hs,e.symm⟩
 refine⟨K2,g2,bg rfl rfl (alD _ _ _ _ ?_),t3.sub λq cs h=> ?_,F2,λq hq=> ?_,((Step.new _ G.1).trans q5).trans t4⟩
 ·simp only [iy] at q1;simp only [xq_,afz,q1,t1,t2,iy]
 ·simp only [g2] at h;split at h
  ·cases h
  ·rename_i hne;rw [aZ hne];exact h
 ·simp only [g2];split
  ·rename_i e;rw [e,hn]
  ·rename_i hne;rw [q4 q hq,aZ hne]
theorem MS(G:Good b H g)(hb:H.base<=b)(F:gY g f P c fab)(J:SS P fab.l.length)(K:FOk c fab)(i:Int):
  ∃H' g',cl 134 [.ref f 0 0,I i] H=some (iy (fab.take i false).2,H')/\Good b H' g'/\gY g' f P c (fab.take i false).1/\Off (NY P fab.l.length) g g'/\Step b H H':=by
 have G1:=G.newObj (ty:=81) (xs:=zP9) rfl;have S1:sW g (upd g H.next (zP9.map Cell.av)):=(sW.refl g).more (G.isNone (zac _)) _;have F1:=F.sub S1;obtain⟨K1,g',q1,q2,q3,q4,q5⟩:=aaR G1 (by rw [jy];exact hb) F1 J K i false;have hg':g' H.next=some (zP9.map Cell.av):=by rw [q4 _ (F.Tv G),aU]
 obtain⟨K2,t1,t2,t3,t4⟩:=aiv q2 (by rw [q5.base,jy];exact hb) hg' rfl (y:=((fab.take i false).2.getD .zero).av) (bT _) (aP _);let g2:bD:=λq=> if q=H.next then none else g' q
 have hn:g H.next=none:=G.isNone (zac _)
 have F2:gY g2 f P c (fab.take i false).1:=by
  have ne:∀q cs,g' q=some cs->q≠H.next->g2 q=some cs:=λq cs h1 h2=> by simp only [g2];rw [if_neg h2];exact h1
  have hlen:(fab.take i false).1.l.length=fab.l.length:=by
   unfold Fab.take;split
   ·split
    ·rfl
    ·simp [Fab.put]
   ·rfl
  have fn:f≠H.next:=G.ne F.1
  refine⟨ne _ _ q3.1 fn,λj p hj=> Au λs hs=> ne _ _ (gG (q3.2.1 j p hj) hs) λe=> ?_,q3.2.2⟩;have hjl:j < fab.l.length:=by rw [<-hlen];exact(zai.1 hj).1
  exact F.Tv G ⟨j,s,hjl,hs,e.symm⟩
 refine⟨K2,g2,bg rfl rfl (alp _ _ _ _ ?_),t3.sub λq cs h=> ?_,F2,λq hq=> ?_,((Step.new _ G.1).trans q5).trans t4⟩
 ·simp only [iy] at q1;simp only [xq_,afu,q1,t1,t2,iy]
 ·simp only [g2] at h;split at h
  ·cases h
  ·rename_i hne;rw [aZ hne];exact h
 ·simp only [g2];split
  ·rename_i e;rw [e,hn]
  ·rename_i hne;rw [q4 q hq,aZ hne]
end
section
variable {b:Nat}{H:ah}{g:bD}{q:Nat}{l:List Pkt}{room:Int}
theorem Xh(G:Good b H g)(hb:H.base<=b)(h:g q=some (mZ l room))(h3:l.length < 1000)(hd:∀p∈l,p.data.length < 1000000000)(k:Nat)(hk:k < l.length):
  ∃v H',cl 94 [.ref q 0 0,I k] H=some (v,H')/\Good b H' (upd g q (mZ (l.eraseIdx k) room))/\Step b H H':=by
 obtain⟨p,hp⟩:∃p,l[k]?=some p:=⟨_,zab hk⟩
 have hq:=G.lt h;have G1:=G.newObj (ty:=81) (xs:=zP9) rfl;have h1:upd g H.next (zP9.map Cell.av) q=some (mZ l room):=by rw [aZ (by omega)];exact h
 have e1:=aaf G1 h1 h3 hd k;rw [if_neg (by omega),zat,hp] at e1;simp only [iy,zar,zaI] at e1;have hb0:H.base<=H.next:=zau hb G.1
 have G2:=G1.newObj (ty:=81) (xs:=p.av) (aP _);have h2:upd (upd g H.next (zP9.map Cell.av)) (H.next+1) (p.av.map Cell.av) q=some (mZ l room):=by rw [aZ (by omega)];exact h1
 obtain⟨x,x',K1,K2,s1,s2,s3,s4,s5⟩:=Vk G2 (by rw [jy,jy];omega) h2 h3 hk;have G3:Good b K2 _:=s4;let gz:=upd (upd (upd g H.next (zP9.map Cell.av)) (H.next+1) (p.av.map Cell.av)) q (mZ (l.eraseIdx k) room);have q2:gz (H.next+1)=some (p.av.map Cell.av):=by simp only [gz];rw [aZ (by omega),aU]
 have q1:gz H.next=some (zP9.map Cell.av):=by simp only [gz];rw [aZ (by omega),aZ (by omega),aU]
 have l2:=G3.loads q2 (i:=0) (n:=9) (xs:=p.av) rfl rfl (by decide);obtain⟨K3,t1,t2,t3,t4⟩:=G3.stores (by rw [s5.base,jy,jy];exact hb) q1 (i:=0) (n:=9) (vs:=p.av) (by decide) rfl (aP _);have l3:=t2.loads aU (i:=0) (n:=9) (xs:=p.av) rfl rfl (by decide);have w1:=wrap_i64 (a:=(k:Int)+1) (by omega) (by omega);have n1:g H.next=none:=G.isNone (zac _)
 have n2:g (H.next+1)=none:=G.isNone (by omega);refine⟨.tup [.agg p.av,B true],K3,bg rfl rfl (apu _ _ _ _ ?_),t2.sub (((((sW.refl g).more n1 _).more n2 _).both q _).more (zC n1 (by omega)) _),(((Step.new _ G.1).trans (Step.new _ (G.new _).1)).trans s5).trans t3⟩;simp only [Nat.reduceAdd,aN,xq_,hq_,ak0,e1,SC,hb0,dF,w1,s1,s2,s3,l2,t1,l3]
end
theorem vN {β:Type}{r gg o:Nat}{H H':ah}{k:Option β}(h:H'.get r=H.get r):ck (bQ (.ref r gg o)) H H' k=k:=adk λx hx=> by
 simp only [bQ,zaa] at hx;subst hx;exact h
section
variable {β:Type}{r gg o:Nat}{X X':ah}{a a' c c':fU}{k:Option β}
theorem ckN(h:r < X.next):ck (bQ (.ref r gg o)) (X.new a) (X.new a') k=k:=vN (by rw [cZ h,cZ h])
theorem ckM(h:r=X.next)(h':X'.next=X.next):ck (bQ (.ref r gg o)) ((X.new a).new c) ((X'.new a).new c') k=k:=vN (by rw [cZ (H:=X'.new a) (by rw [fA,h'];omega),cZ (H:=X.new a) (by rw [fA];omega),bF (h.trans h'.symm),bF h])
end
theorem anz {β:Type}{l:List Int}{H H':ah}{k:Option β}:ck (bQ (dat l)) H H' k=k:=adk λx hx=> by
 by_cases h:l=[]
 ·subst h;simp [dat,gZ,bQ] at hx
 ·rw [yD h] at hx;simp [bQ] at hx
theorem lC:bJ.zero.av=[zI,zI,zI,zI,zI,zI,zN,zI,zI]:=by simp [bJ.zero,bJ.av,dat,gZ]
theorem aaS(p:bJ){d:Nat}:∀x∈p.av,Frz (d+2) x:=λx hx=> by
 simp only [bJ.av,zaj,zay,or_false] at hx;rcases hx with rfl | rfl | rfl | rfl | rfl | rfl | rfl | rfl | rfl <;> first | exact gq | exact uM
theorem aaT(H:ah)(k:Int):cl 223 [I k] H=some (I (zD k),H):=by
 refine bg rfl rfl (amF _ _ _ ?_);unfold zD;by_cases h1:k=1
 ·simp only [Int.reduceEq,xq_,Dz,h1]
 ·by_cases h2:k=2
  ·simp only [Int.reduceEq,xq_,Dz,h2]
  ·by_cases h3:k=3
   ·simp only [Int.reduceEq,xq_,Dz,h3]
   ·by_cases h4:k=4
    ·simp only [Int.reduceEq,xq_,Dz,h4]
    ·by_cases h5:k=5
     ·simp only [Int.reduceEq,xq_,Dz,h5]
     ·by_cases h6:k=6
      ·simp only [Int.reduceEq,xq_,Dz,h6]
      ·simp only [xq_,Dz,h1,h2,h3,h4,h5,h6]
theorem adB(H:ah)(aO aj id:Int):cl 200 [I aO,I aj,I id] H=some (.agg (bJ.begin aO aj id).av,H):=by
 refine bU rfl rfl (amm _ _ _ _ _) ?_ (mW (aaS _));have hd0:dat ([]:List Int)=zN:=by simp [dat,gZ]
 simp only [Int.reduceNeg,Nat.reduceAdd,Nat.reduceLeDiff,aN,xq_,hq_,af6,Wx,jX,gI,ajI,bJ.begin,bJ.av,hd0]
theorem Tz(H:ah)(d:bJ)(p:Pkt):cl 216 [.agg d.av,.agg p.av] H=some (B (d.fits p),H):=by
 refine bU rfl rfl (amw _ _ _ _) ?_ gq;have e1:=λH=> aaT H d.step;have e2:=λH=> Qg H (zD d.step);unfold bJ.fits;by_cases h1:BI (zD d.step)=0
 ·simp only [Nat.reduceLT,xq_,hq_,JJ,aF,bJ.av,Pkt.av,e1,e2,h1,zae,zaV,not_true_eq_false]
 ·by_cases h2:p.aO=BI (zD d.step)
  ·by_cases h3:p.id=d.id
   ·by_cases h4:p.aj=d.aj
    ·simp only [Nat.reduceLT,xq_,hq_,JJ,aF,bJ.av,Pkt.av,e1,e2,h1,h2,h3,h4,zal]
    ·simp only [Nat.reduceLT,xq_,hq_,JJ,aF,bJ.av,Pkt.av,e1,e2,h1,h2,h3,h4,zal,zbZ]
   ·simp only [Nat.reduceLT,xq_,hq_,JJ,aF,bJ.av,Pkt.av,e1,e2,h1,h2,h3,zal,zaV,zbZ]
  ·simp only [Nat.reduceLT,xq_,hq_,JJ,aF,bJ.av,Pkt.av,e1,e2,h1,h2,zal,zaV,zbZ]
theorem anA(H:ah)(d:bJ)(bG home:Int)(hl:d.data.length < 1000000000):cl 192 [.agg d.av,I bG,I home] H=some (.agg (d.ask bG home).av,H):=by
 refine bU rfl rfl (al9 _ _ _ _ _) ?_ (mW (VF _));have e1:=λH k=> aaT H k;have hd0:dat ([]:List Int)=zN:=by simp [dat,gZ]
 have e5:=λH=> jL H d.data hl;have e6:=λH=> (mQ H d.data).lnS;have ebd:∀k,bd 81 [(0,I k),(1,I bG),(2,I home),(3,I d.id),(4,I d.aj)]=some (.agg [I k,I bG,I home,I d.id,I d.aj,zI,zI,zB,zN]):=λk=> by
  simp only [xq_,yO,jX,gI,RH];rfl
 have ez:bd 81 []=some (.agg zP9):=by simp only [xq_,yO,jX,dX]
 unfold bJ.ask;by_cases h1:d.step=1
 ·simp only [Nat.reduceLT,Int.reduceEq,Nat.reduceAdd,Nat.reduceLeDiff,aN,xq_,hq_,Dy,aF,bJ.av,e1,h1,ebd,zD,Pkt.av,hd0]
 ·by_cases h2:d.step=2
  ·simp only [Nat.reduceLT,Int.reduceEq,Nat.reduceAdd,Nat.reduceLeDiff,aN,xq_,hq_,Dy,oG,aF,bJ.av,e1,h2,ebd,zD,Pkt.av,hd0]
  ·by_cases h3:d.step=3
   ·simp only [Nat.reduceLT,Int.reduceEq,Nat.reduceAdd,Nat.reduceLeDiff,aN,xq_,hq_,Dy,oG,aF,bJ.av,e1,h3,ebd,zD,Pkt.av,hd0]
   ·by_cases h4:d.step=4
    ·simp only [Nat.reduceLT,Int.reduceEq,Nat.reduceAdd,Nat.reduceLeDiff,aN,xq_,hq_,Dy,oG,aF,bJ.av,e1,h4,ebd,zD,Pkt.av,hd0,ckN]
    ·by_cases h5:d.step=5
     ·simp only [Nat.reduceLT,Int.reduceEq,Nat.reduceAdd,Nat.reduceLeDiff,aN,xq_,hq_,Dy,oG,aF,bJ.av,e1,h5,ebd,zD,Pkt.av,hd0,ckN]
     ·by_cases h6:d.step=6
      ·have hn:decide (d.data≠[])=decide ((0:Int) < d.data.length):=by
        cases d.data with
        | nil=> rfl
        | cons a l=>
         have:(0:Int) < ((a::l).length:Int):=by simp only [zam];omega
         simp only [this,ne_eq,decide_true];rfl
       simp only [Nat.reduceLT,Int.reduceEq,Nat.reduceAdd,Nat.reduceLeDiff,aN,xq_,hq_,Dy,oG,aF,bJ.av,e1,h6,ebd,zD,Pkt.av,e5,e6,hn,ckN,anz]
      ·simp only [Nat.reduceLT,Nat.reduceAdd,Nat.reduceLeDiff,aN,xq_,hq_,Dy,aF,bJ.av,e1,h1,h2,h3,h4,h5,h6,ebd,ez,fE]
abbrev Lcl:=Nat->Option (List AV)
def iD(ls:Lcl)(r:Nat)(xs:List AV):Lcl:=λx=> if x=r then some xs else ls x
def noL:Lcl:=λ_=> none
def lay(g:bD)(ls:Lcl):bD:=λq=> match ls q with
 | some xs=> some (xs.map Cell.av)
 | none=> g q
structure Loc(b:Nat)(K:ah)(g:bD)(ls:Lcl):Prop where
 good:Good b K (lay g ls)
 free:∀r,ls r≠none->g r=none
section
variable {b:Nat}{K:ah}{g:bD}{ls:Lcl}{r q:Nat}{xs:List AV}
theorem ak:iD ls r xs r=some xs:=by simp [iD]
theorem aB {x:Nat}(h:x≠r):iD ls r xs x=ls x:=by simp [iD,h]
theorem aaU:lay g (iD ls r xs)=upd (lay g ls) r (xs.map Cell.av):=by
 funext x
 simp only [lay,iD,upd];by_cases h:x=r
 ·simp [h]
 ·simp [h]
theorem MV {cs:List Cell}(h:ls q=none):lay (upd g q cs) ls=upd (lay g ls) q cs:=by
 funext x
 simp only [lay,upd];by_cases hx:x=q
 ·subst hx;simp [h]
 ·simp [hx]
theorem Loc.of(G:Good b K g):Loc b K g noL:=⟨G,λ_ h=> absurd rfl h⟩
theorem Loc.out(L:Loc b K g ls):Good b K g:=L.good.sub λq cs h=> by
 unfold lay;cases hl:ls q with
 | none=> exact h
 | some xs=> rw [L.free q (by rw [hl];simp)] at h;cases h
theorem Loc.new(L:Loc b K g ls)(o:fU):Loc b (K.new o) g ls:=⟨L.good.new o,L.free⟩
theorem Loc.newL(L:Loc b K g ls){ty:TypeId}(hc:xs.all AV.aX=true)(hr:r=K.next)(ht:ty < gV:=by decide):Loc b (K.new (.blk 0 ty xs)) g (iD ls r xs):=by
 subst hr;refine⟨by rw [aaU];exact L.good.newObj hc ht,λx hx=> ?_⟩;by_cases h:x=K.next
 ·rw [h];exact L.out.isNone (zac _)
 ·rw [aB h] at hx;exact L.free x hx
theorem pK(h:ls r=some xs):lay g ls r=some (xs.map Cell.av):=by simp [lay,h]
theorem Loc.at_(L:Loc b K g ls){cs:List Cell}(h:g q=some cs):lay g ls q=some cs/\ls q=none:=by
 cases hl:ls q with
 | none=> exact⟨by simp [lay,hl,h],rfl⟩
 | some xs=> rw [L.free q (by rw [hl];simp)] at h;cases h
theorem Loc.obj(L:Loc b K g ls){cs:List Cell}(h:g q=some cs):lay g ls q=some cs:=(L.at_ h).1
theorem Loc.ld(L:Loc b K g ls)(h:ls r=some xs){i:Nat}{v:AV}(hi:xs[i]?=some v):ld (.ref r 0 i) K=some (v,K):=
 L.good.load (pK h) (i:=i) (x:=v) (by rw [zaR,hi];rfl)
theorem Loc.lda(L:Loc b K g ls)(h:ls r=some xs){i n:Nat}{ys:List AV}(hi:(xs.drop i).take n=ys)(hn:ys.length=n)(hp:0 < n):lda n (.ref r 0 i) K=some (.agg ys,K):=
 L.good.loads (pK h) (i:=i) (n:=n) (xs:=ys) (by rw [<-hi,zcV,zdC]) hn hp
theorem Xi {i:Nat}{vs:List AV}:pG (xs.map Cell.av) i vs=(aN xs i vs).map Cell.av:=by
 simp only [pG,aN,zbj,zcV,zdC]
theorem Loc.ais(L:Loc b K g ls)(h:ls r=some xs){K':ah}{ys:List AV}(G:Good b K' (upd (lay g ls) r (ys.map Cell.av))):Loc b K' g (iD ls r ys):=by
 refine⟨by rw [aaU];exact G,λx hx=> ?_⟩;by_cases e:x=r
 ·subst e;exact L.free x (by rw [h];simp)
 ·rw [aB e] at hx;exact L.free x hx
theorem Loc.st(L:Loc b K g ls)(hb:K.base<=b)(h:ls r=some xs){i:Nat}{v:AV}(hi:i < xs.length)(hv:One v):∃K',st 1 (.ref r 0 i) v K=some (aY,K')/\Loc b K' g (iD ls r (xs.set i v))/\Step b K K':=by
 obtain⟨K',t1,t2,t3,t4⟩:=L.good.store hb (pK h) (i:=i) (by simpa using hi) hv;rw [<-List.map_set] at t2;exact⟨K',t1,L.ais h t2,t3⟩
theorem Loc.sta(L:Loc b K g ls)(hb:K.base<=b)(h:ls r=some xs){i n:Nat}{vs:List AV}(hi:i+n<=xs.length)(hn:vs.length=n)(hv:vs.all AV.aX=true):∃K',Proofs.YtgplhpgkompkmaaGreat.st n (.ref r 0 i) (.agg vs) K=some (aY,K')/\Loc b K' g (iD ls r (aN xs i vs))/\Step b K K':=by
 obtain⟨K',t1,t2,t3,t4⟩:=L.good.stores hb (pK h) (i:=i) (by simpa using hi) hn hv;rw [Xi] at t2;exact⟨K',t1,L.ais h t2,t3⟩
theorem aaV {vs:List AV}(h:vs.length=xs.length):aN xs 0 vs=vs:=by
 unfold aN;rw [zdw,zaJ,za3,zaS (by omega),zbl]
theorem Loc.whole(L:Loc b K g ls)(hb:K.base<=b)(h:ls r=some xs){n:Nat}{vs:List AV}(hx:xs.length=n)(hn:vs.length=n)(hp:0 < n)(hv:vs.all AV.aX=true):∃K',Proofs.YtgplhpgkompkmaaGreat.st n (.ref r 0 0) (.agg vs) K=some (aY,K')/\Proofs.YtgplhpgkompkmaaGreat.lda n (.ref r 0 0) K'=some (.agg vs,K')/\Loc b K' g (iD ls r vs)/\Step b K K':=by
 obtain⟨K',t1,t2,t3⟩:=L.sta hb h (i:=0) (n:=n) (vs:=vs) (by omega) hn hv;rw [aaV (by omega)] at t2;exact⟨K',t1,t2.lda ak (i:=0) (n:=n) (by rw [zaQ,zaz (by omega)]) hn hp,t2,t3⟩
theorem Loc.call(L:Loc b K g ls){cs0 cs:List Cell}(hq:g q=some cs0){K':ah}(G:Good b K' (upd (lay g ls) q cs)):Loc b K' (upd g q cs) ls:=by
 obtain⟨h1,h2⟩:=L.at_ hq;refine⟨by rw [MV h2];exact G,λr hr=> ?_⟩;have hne:r≠q:=λe=> by subst e;exact hr h2
 rw [aZ hne];exact L.free r hr
theorem Good.exact {b:Nat}{K:ah}{g:bD}{r:Nat}{xs:List AV}(G:Good b K g)(h:g r=some (xs.map Cell.av)):∃ty,K.get r=.blk 0 ty xs/\ty < gV:=by
 obtain⟨_,τ,hR⟩:=G;have R:=hR r _ h;obtain⟨ty,ys,h1,h2,h3,h4⟩:=R.blk;have:ys=xs:=by
  apply zbg
  intro i;rcases zaW i xs.length with hi | hi
  ·have hx:ys[i]?=some (ys[i]'(by simp at h2;omega)):=zab _;have:=h4 i (.av xs[i]) _ (by simp [hi]) hx;simp only [CR] at this;rw [hx,this];simp [hi]
  ·rw [zaK (by simp at h2;omega),zaK hi]
 subst this;exact⟨ty,h1,R.tyl _ _ _ h1⟩
theorem VH {b:Nat}{K K':ah}{g g':bD}{r:Nat}{xs:List AV}(G:Good b K g)(G':Good b K' g')(hk:Keeps K K')(h:g r=some (xs.map Cell.av))(h':g' r=some (xs.map Cell.av)):K'.get r=K.get r:=by
 have hr:=G.lt h;obtain⟨ty,e1,t1⟩:=G.exact h;obtain⟨ty',e2,t2⟩:=G'.exact h';obtain⟨g2,ty2,c2,e3,k⟩:=hk.types r hr _ _ _ e1;rw [e2] at e3;cases e3;rcases k with rfl | k
 ·rw [e1,e2]
 ·exact absurd k (Nat.not_le.2 t2)
end
structure COk(ca:Cache):Prop where
 len:ca.l.length < 1000000
 sets:1<=ca.sets
 clk:0<=ca.bW/\ca.bW < 1000000000
 dat:∀e∈ca.l,e.data.length < 1000000000
 used:∀e∈ca.l,0<=e.used/\e.used < 1000000000
theorem AB {b:Nat}{H:ah}{g:bD}{q:Nat}(G:Good b H g)(hb:H.base<=b){c:Cache}(h:g q=some (dn c))(C:COk c)(e:Ent)(hel:e.data.length < 1000000000):
  ∃H',cl 191 [.ref q 0 0,.agg e.av] H=some (I (c.put e).2,H')/\Good b H' (upd g q (dn (c.put e).1))/\Step b H H':=
 Vy G hb h C.len C.sets C.clk e hel (pV _ e.data)
def uf(n:Nxt):AV:=.tup [.agg n.2.1.av,B n.2.2]
abbrev zD9:List AV:=[zI,zI,zI,zI,zI,zI,zN,zI,zI]
theorem DK:dat ([]:List Int)=zN:=by simp [dat,gZ]
section
variable {b:Nat}{H:ah}{g:bD}{q:Nat}{ca:Cache}
theorem aiw(G:Good b H g)(hb:H.base<=b)(h:g q=some (dn ca))(C:COk ca)(d:bJ)(bG:Int)(p:Pkt)(hp:p.data.length < 1000000000):
  ∃H',cl 218 [.agg d.av,I bG,.ref q 0 0,.agg p.av] H=some (uf ((ca.put ⟨d.head,-1,d.aj,0,false,p.data⟩).1,{ d with step:=6,aQ:=1,head:=bG,data:=if p.flag then p.data else [] },true),H')/\
   Good b H' (upd g q (dn (ca.put ⟨d.head,-1,d.aj,0,false,p.data⟩).1))/\Step b H H':=by
 refine kD rfl rfl (amA _ _ _ _ _ _) ?_;have L1:=(Loc.of G).newL (ty:=73) (xs:=d.av) (r:=H.next) (bC d) rfl;have L2:=L1.newL (ty:=81) (xs:=p.av) (r:=H.next+1) (aP p) (by rw [fA]);have L3:=L2.newL (ty:=73) (xs:=zD9) (r:=H.next+1+1) rfl (by rw [fA,fA]);have s3:Step b H _:=((Step.new (.blk 0 73 d.av) G.1).trans (Step.new (.blk 0 81 p.av) L1.good.1)).trans (Step.new (.blk 0 73 zD9) L2.good.1);have d1:=L3.ld (r:=H.next) (i:=1) (v:=I d.aj) (by first | exact ak | (rw [aB (by omega)];first | exact ak | (rw [aB (by omega)];first | exact ak | (rw [aB (by omega)];first | exact ak | (rw [aB (by omega)];first | exact ak | (rw [aB (by omega)];exact ak)))))) rfl;have d5:=L3.ld (r:=H.next) (i:=5) (v:=I d.head) (by first | exact ak | (rw [aB (by omega)];first | exact ak | (rw [aB (by omega)];first | exact ak | (rw [aB (by omega)];first | exact ak | (rw [aB (by omega)];first | exact ak | (rw [aB (by omega)];exact ak)))))) rfl;have p8:=L3.ld (r:=H.next+1) (i:=8) (v:=dat p.data) (by first | exact ak | (rw [aB (by omega)];first | exact ak | (rw [aB (by omega)];first | exact ak | (rw [aB (by omega)];first | exact ak | (rw [aB (by omega)];first | exact ak | (rw [aB (by omega)];exact ak)))))) rfl;have e1:=λH=> aaB H d.aj d.head (-1) false hp (pV H p.data);obtain⟨K1,a1,a2,a3⟩:=AB L3.good (by rw [s3.base];exact hb) (L3.obj h) C ⟨d.head,-1,d.aj,0,false,p.data⟩ hp;have M1:=L3.call h a2;have t1:=s3.trans a3;obtain⟨K2,u2,M2,w2⟩:=M1.st (by rw [t1.base];exact hb) (r:=H.next) (by first | exact ak | (rw [aB (by omega)];first | exact ak | (rw [aB (by omega)];first | exact ak | (rw [aB (by omega)];first | exact ak | (rw [aB (by omega)];first | exact ak | (rw [aB (by omega)];exact ak)))))) (i:=3) (v:=I 6) (by simp [bJ.av]) dJ;have t2:=t1.trans w2;obtain⟨K3,u3,M3,w3⟩:=M2.st (by rw [t2.base];exact hb) (r:=H.next) (by first | exact ak | (rw [aB (by omega)];first | exact ak | (rw [aB (by omega)];first | exact ak | (rw [aB (by omega)];first | exact ak | (rw [aB (by omega)];first | exact ak | (rw [aB (by omega)];exact ak)))))) (i:=4) (v:=I 1) (by simp [bJ.av]) dJ;have t3:=t2.trans w3;obtain⟨K4,u4,M4,w4⟩:=M3.st (by rw [t3.base];exact hb) (r:=H.next) (by first | exact ak | (rw [aB (by omega)];first | exact ak | (rw [aB (by omega)];first | exact ak | (rw [aB (by omega)];first | exact ak | (rw [aB (by omega)];first | exact ak | (rw [aB (by omega)];exact ak)))))) (i:=5) (v:=I bG) (by simp [bJ.av]) dJ;have t4:=t3.trans w4;obtain⟨K5,u5,M5,w5⟩:=M4.st (by rw [t4.base];exact hb) (r:=H.next) (by first | exact ak | (rw [aB (by omega)];first | exact ak | (rw [aB (by omega)];first | exact ak | (rw [aB (by omega)];first | exact ak | (rw [aB (by omega)];first | exact ak | (rw [aB (by omega)];exact ak)))))) (i:=6) (v:=zN) (by simp [bJ.av]) qm;have t5:=t4.trans w5
 have p7:=M5.ld (r:=H.next+1) (i:=7) (v:=B p.flag) (by first | exact ak | (rw [aB (by omega)];first | exact ak | (rw [aB (by omega)];first | exact ak | (rw [aB (by omega)];first | exact ak | (rw [aB (by omega)];first | exact ak | (rw [aB (by omega)];exact ak)))))) rfl;cases hf:p.flag with
 | true=>
  rw [hf] at p7;have q8:=M5.ld (r:=H.next+1) (i:=8) (v:=dat p.data) (by first | exact ak | (rw [aB (by omega)];first | exact ak | (rw [aB (by omega)];first | exact ak | (rw [aB (by omega)];first | exact ak | (rw [aB (by omega)];first | exact ak | (rw [aB (by omega)];exact ak)))))) rfl;have e2:=λH=> jL H p.data hp;obtain⟨K6,u6,M6,w6⟩:=M5.st (by rw [t5.base];exact hb) (r:=H.next) (by first | exact ak | (rw [aB (by omega)];first | exact ak | (rw [aB (by omega)];first | exact ak | (rw [aB (by omega)];first | exact ak | (rw [aB (by omega)];first | exact ak | (rw [aB (by omega)];exact ak)))))) (i:=6) (v:=dat p.data) (by simp [bJ.av]) rW;have t6:=t5.trans w6;have f1:=M6.lda (r:=H.next) (by first | exact ak | (rw [aB (by omega)];first | exact ak | (rw [aB (by omega)];first | exact ak | (rw [aB (by omega)];first | exact ak | (rw [aB (by omega)];first | exact ak | (rw [aB (by omega)];exact ak)))))) (i:=0) (n:=9) (ys:=(bJ.mk d.aO d.aj d.id 6 1 bG p.data d.next d.told).av) rfl rfl (by decide);obtain⟨K7,u7,v7,M7,w7⟩:=M6.whole (by rw [t6.base];exact hb) (r:=H.next+1+1) (by first | exact ak | (rw [aB (by omega)];first | exact ak | (rw [aB (by omega)];first | exact ak | (rw [aB (by omega)];first | exact ak | (rw [aB (by omega)];first | exact ak | (rw [aB (by omega)];exact ak)))))) (n:=9) (vs:=(bJ.mk d.aO d.aj d.id 6 1 bG p.data d.next d.told).av) rfl rfl (by decide) (bC _);refine⟨K7,?_,M7.out,t6.trans w7⟩;simp only [Nat.reduceLT,Int.reduceNeg,xq_,ZX,EM,aF (bC d),aF (aP p),d1,d5,p8,e1,a1,u2,u3,u4,u5,p7,q8,e2,u6,f1,u7,v7,uf]
 | false=>
  rw [hf] at p7;have f1:=M5.lda (r:=H.next) (by first | exact ak | (rw [aB (by omega)];first | exact ak | (rw [aB (by omega)];first | exact ak | (rw [aB (by omega)];first | exact ak | (rw [aB (by omega)];first | exact ak | (rw [aB (by omega)];exact ak)))))) (i:=0) (n:=9) (ys:=(bJ.mk d.aO d.aj d.id 6 1 bG [] d.next d.told).av) (by simp only [bJ.av,DK];rfl) rfl (by decide);obtain⟨K7,u7,v7,M7,w7⟩:=M5.whole (by rw [t5.base];exact hb) (r:=H.next+1+1) (by first | exact ak | (rw [aB (by omega)];first | exact ak | (rw [aB (by omega)];first | exact ak | (rw [aB (by omega)];first | exact ak | (rw [aB (by omega)];first | exact ak | (rw [aB (by omega)];exact ak)))))) (n:=9) (vs:=(bJ.mk d.aO d.aj d.id 6 1 bG [] d.next d.told).av) rfl rfl (by decide) (bC _);refine⟨K7,?_,M7.out,t5.trans w7⟩;simp only [Nat.reduceLT,Int.reduceNeg,xq_,ZX,EM,aF (bC d),aF (aP p),d1,d5,p8,e1,a1,u2,u3,u4,u5,p7,f1,u7,v7,uf]
def uX(d:bJ)(bG:Int)(c:Cache)(p:Pkt):Nxt:=
 if p.aQ≠0 then(c,{ d with aQ:=p.aQ,head:=p.ptr,told:=p.ptr,data:=p.data,step:=2 },true)
 else((c.put ⟨-1,-1,d.aj,0,false,p.data⟩).1,{ d with told:=p.ptr,step:=6,aQ:=1,head:=bG,data:=[] },true)
theorem aaW(G:Good b H g)(hb:H.base<=b)(h:g q=some (dn ca))(C:COk ca)(d:bJ)(bG:Int)(p:Pkt)(hp:p.data.length < 1000000000):
  ∃H',cl 217 [.agg d.av,I bG,.ref q 0 0,.agg p.av] H=some (uf (uX d bG ca p),H')/\Good b H' (upd g q (dn (uX d bG ca p).1))/\Step b H H':=by
 have hb0:H.base<=H.next:=zau hb G.1
 have e2:=λH=> jL H p.data hp;refine kD rfl rfl (amy _ _ _ _ _ _) ?_;by_cases hs:p.aQ=0;rotate_left
 ·have hm:uX d bG ca p=(ca,{ d with aQ:=p.aQ,head:=p.ptr,told:=p.ptr,data:=p.data,step:=2 },true):=by simp only [uX];rw [if_pos hs]
  rw [hm];refine⟨((H.new (.blk 0 73 (bJ.mk d.aO d.aj d.id 2 p.aQ p.ptr p.data d.next p.ptr).av)).new (.blk 0 81 p.av)).new (.blk 0 73 (bJ.mk d.aO d.aj d.id 2 p.aQ p.ptr p.data d.next p.ptr).av),?_,by rw [fF h];exact((G.new _).new _).new _,((Step.new _ G.1).trans (Step.new _ (G.new _).1)).trans (Step.new _ ((G.new _).new _).1)⟩;simp only [Nat.reduceLT,Int.reduceNeg,Nat.reduceAdd,Nat.reduceLeDiff,aN,xq_,hq_,ZW,aF,bJ.av,Pkt.av,e2,hb0,ckM,hs,zal,uf]
 ·have hm:uX d bG ca p=((ca.put ⟨-1,-1,d.aj,0,false,p.data⟩).1,{ d with told:=p.ptr,step:=6,aQ:=1,head:=bG,data:=[] },true):=by simp only [uX];rw [if_neg (λh=> h hs)]
  rw [hm];let d2:bJ:=bJ.mk d.aO d.aj d.id d.step p.aQ p.ptr p.data d.next p.ptr
  have L1:=(Loc.of G).newL (ty:=73) (xs:=d2.av) (r:=H.next) (bC d2) rfl;have L2:=L1.newL (ty:=81) (xs:=p.av) (r:=H.next+1) (aP p) (by rw [fA]);have L3:=L2.newL (ty:=73) (xs:=zD9) (r:=H.next+1+1) rfl (by rw [fA,fA]);have s3:Step b H _:=((Step.new (.blk 0 73 d2.av) G.1).trans (Step.new (.blk 0 81 p.av) L1.good.1)).trans (Step.new (.blk 0 73 zD9) L2.good.1);have e1:=λH=> aaB H d.aj (-1) (-1) false hp (pV H p.data);obtain⟨K1,a1,a2,a3⟩:=AB L3.good (by rw [s3.base];exact hb) (L3.obj h) C ⟨-1,-1,d.aj,0,false,p.data⟩ hp;have M1:=L3.call h a2;have t1:=s3.trans a3;obtain⟨K2,u2,M2,w2⟩:=M1.st (by rw [t1.base];exact hb) (r:=H.next) (by first | exact ak | (rw [aB (by omega)];first | exact ak | (rw [aB (by omega)];first | exact ak | (rw [aB (by omega)];first | exact ak | (rw [aB (by omega)];first | exact ak | (rw [aB (by omega)];exact ak)))))) (i:=3) (v:=I 6) (by simp [bJ.av]) dJ;have t2:=t1.trans w2;obtain⟨K3,u3,M3,w3⟩:=M2.st (by rw [t2.base];exact hb) (r:=H.next) (by first | exact ak | (rw [aB (by omega)];first | exact ak | (rw [aB (by omega)];first | exact ak | (rw [aB (by omega)];first | exact ak | (rw [aB (by omega)];first | exact ak | (rw [aB (by omega)];exact ak)))))) (i:=4) (v:=I 1) (by simp [bJ.av]) dJ;have t3:=t2.trans w3;obtain⟨K4,u4,M4,w4⟩:=M3.st (by rw [t3.base];exact hb) (r:=H.next) (by first | exact ak | (rw [aB (by omega)];first | exact ak | (rw [aB (by omega)];first | exact ak | (rw [aB (by omega)];first | exact ak | (rw [aB (by omega)];first | exact ak | (rw [aB (by omega)];exact ak)))))) (i:=5) (v:=I bG) (by simp [bJ.av]) dJ;have t4:=t3.trans w4;obtain⟨K5,u5,M5,w5⟩:=M4.st (by rw [t4.base];exact hb) (r:=H.next) (by first | exact ak | (rw [aB (by omega)];first | exact ak | (rw [aB (by omega)];first | exact ak | (rw [aB (by omega)];first | exact ak | (rw [aB (by omega)];first | exact ak | (rw [aB (by omega)];exact ak)))))) (i:=6) (v:=zN) (by simp [bJ.av]) qm;have t5:=t4.trans w5;have f1:=M5.lda (r:=H.next) (by first | exact ak | (rw [aB (by omega)];first | exact ak | (rw [aB (by omega)];first | exact ak | (rw [aB (by omega)];first | exact ak | (rw [aB (by omega)];first | exact ak | (rw [aB (by omega)];exact ak)))))) (i:=0) (n:=9) (ys:=(bJ.mk d.aO d.aj d.id 6 1 bG [] d.next p.ptr).av) (by simp only [bJ.av,DK];rfl) rfl (by decide);obtain⟨K7,u7,v7,M7,w7⟩:=M5.whole (by rw [t5.base];exact hb) (r:=H.next+1+1) (by first | exact ak | (rw [aB (by omega)];first | exact ak | (rw [aB (by omega)];first | exact ak | (rw [aB (by omega)];first | exact ak | (rw [aB (by omega)];first | exact ak | (rw [aB (by omega)];exact ak)))))) (n:=9) (vs:=(bJ.mk d.aO d.aj d.id 6 1 bG [] d.next p.ptr).av) rfl rfl (by decide) (bC _);refine⟨K7,?_,M7.out,t5.trans w7⟩;simp only [d2,bJ.av,Pkt.av,hs,DK] at a1 f1 u7 v7;simp only [Nat.reduceLT,Int.reduceNeg,Nat.reduceAdd,Nat.reduceLeDiff,aN,xq_,hq_,ZW,aF,bJ.av,Pkt.av,e2,hb0,ckM,hs,zae,e1,a1,u2,u3,u4,u5,f1,u7,v7,uf,DK]
theorem uY(G:Good b H g)(d:bJ)(p:Pkt):∃ls:Lcl,Loc b (((H.new (.blk 0 73 d.av)).new (.blk 0 81 p.av)).new (.blk 0 73 zD9)) g ls/\ls H.next=some d.av/\ls (H.next+1)=some p.av/\ls (H.next+1+1)=some zD9/\
  Step b H (((H.new (.blk 0 73 d.av)).new (.blk 0 81 p.av)).new (.blk 0 73 zD9)):=by
 have L1:=(Loc.of G).newL (ty:=73) (xs:=d.av) (r:=H.next) (bC d) rfl;have L2:=L1.newL (ty:=81) (xs:=p.av) (r:=H.next+1) (aP p) (by rw [fA]);have L3:=L2.newL (ty:=73) (xs:=zD9) (r:=H.next+1+1) rfl (by rw [fA,fA]);exact⟨_,L3,(by first | exact ak | (rw [aB (by omega)];first | exact ak | (rw [aB (by omega)];first | exact ak | (rw [aB (by omega)];first | exact ak | (rw [aB (by omega)];first | exact ak | (rw [aB (by omega)];exact ak)))))),(by first | exact ak | (rw [aB (by omega)];first | exact ak | (rw [aB (by omega)];first | exact ak | (rw [aB (by omega)];first | exact ak | (rw [aB (by omega)];first | exact ak | (rw [aB (by omega)];exact ak)))))),(by first | exact ak | (rw [aB (by omega)];first | exact ak | (rw [aB (by omega)];first | exact ak | (rw [aB (by omega)];first | exact ak | (rw [aB (by omega)];first | exact ak | (rw [aB (by omega)];exact ak)))))),((Step.new (.blk 0 73 d.av) G.1).trans (Step.new (.blk 0 81 p.av) L1.good.1)).trans (Step.new (.blk 0 73 zD9) L2.good.1)⟩
theorem aaX(G:Good b H g)(hb:H.base<=b)(h:g q=some (dn ca))(C:COk ca)(d:bJ)(bG:Int)(p:Pkt)(hp:p.data.length < 1000000000):
  ∃H',cl 184 [.agg d.av,I bG,.ref q 0 0,.agg p.av] H=some (uf (dU d bG ca p),H')/\Good b H' (upd g q (dn (dU d bG ca p).1))/\Step b H H':=by
 refine kD rfl rfl (al0 _ _ _ _ _ _) ?_;obtain⟨ls,L,k0,k1,k2,s⟩:=uY G d p;have d0:=L.ld k0 (i:=0) (v:=I d.aO) rfl;have d3:=L.ld k0 (i:=3) (v:=I d.step) rfl;have dA:=L.lda k0 (i:=0) (n:=9) (ys:=d.av) rfl rfl (by decide);have pA:=L.lda k1 (i:=0) (n:=9) (ys:=p.av) rfl rfl (by decide);have hf:=λH=> Tz H d p;have ez:bd 73 []=some (.agg zD9):=by simp only [xq_,Wx,jX,dX]
 have hbK:(((H.new (.blk 0 73 d.av)).new (.blk 0 81 p.av)).new (.blk 0 73 zD9)).base<=b:=by rw [s.base];exact hb
 obtain⟨Kz,z1,z2,z3,z4⟩:=L.whole hbK k2 (n:=9) (vs:=zD9) rfl rfl (by decide) rfl;have no:vO ca=(ca,.zero,false):=rfl;have zu:Good b Kz (upd g q (dn ca)):=by rw [fF h];exact z3.out
 by_cases h1:d.aO≠1∨d.fits p=false
 ·have hm:dU d bG ca p=(ca,.zero,false):=by simp only [dU];rw [if_pos h1];rfl
  rw [hm];refine⟨Kz,?_,zu,s.trans z4⟩;by_cases hk:d.aO=1
  ·have hff:d.fits p=false:=h1.resolve_left (λh=> h hk);rw [hk] at d0;simp only [Nat.reduceLT,xq_,GL,aF (bC d),aF (aP p),d0,dA,pA,hf,hff,zae,zal,ez,z1,z2,uf,lC]
  ·simp only [Nat.reduceLT,xq_,GL,aF (bC d),aF (aP p),d0,hk,zal,ez,z1,z2,uf,lC]
 ·have hk:d.aO=1:=Classical.byContradiction λh=> h1 (.inl h);have hff:d.fits p=true:=by cases hx:d.fits p <;> simp_all
  rw [hk] at d0;by_cases s1:d.step=1
  ·have hm:dU d bG ca p=uX d bG ca p:=by simp only [dU,uX];rw [if_neg h1,if_pos s1]
   rw [hm];rw [s1] at d3;obtain⟨K1,a1,a2,a3⟩:=aaW L.good hbK (L.obj h) C d bG p hp;have M:=L.call h a2;obtain⟨K2,u1,u2,u3,u4⟩:=M.whole (by rw [a3.base];exact hbK) k2 (n:=9) (vs:=(uX d bG ca p).2.1.av) rfl rfl (by decide) (bC _);refine⟨K2,?_,u3.out,(s.trans a3).trans u4⟩;simp only [uf] at a1;simp only [Nat.reduceLT,Int.reduceEq,xq_,GL,aF (bC d),aF (aP p),d0,dA,pA,hf,hff,zae,d3,a1,u1,u2,uf]
  ·by_cases s2:d.step=2
   ·have hm:dU d bG ca p=((ca.put ⟨d.head,-1,d.aj,0,false,p.data⟩).1,{ d with step:=6,aQ:=1,head:=bG,data:=if p.flag then p.data else [] },true):=by simp only [dU];rw [if_neg h1,if_neg s1,if_pos s2]
    rw [hm];obtain⟨K1,a1,a2,a3⟩:=aiw L.good hbK (L.obj h) C d bG p hp;have M:=L.call h a2;obtain⟨K2,u1,u2,u3,u4⟩:=M.whole (by rw [a3.base];exact hbK) k2 (n:=9) (vs:=({ d with step:=6,aQ:=1,head:=bG,data:=if p.flag then p.data else [] }:bJ).av) rfl rfl (by decide) (bC _);refine⟨K2,?_,u3.out,(s.trans a3).trans u4⟩;rw [s2] at d3;simp only [uf] at a1;simp only [Nat.reduceLT,Int.reduceEq,xq_,GL,aF (bC d),aF (aP p),d0,dA,pA,hf,hff,zae,d3,a1,u1,u2,uf]
   ·by_cases s6:d.step=6
    ·have hm:dU d bG ca p=(ca,{ d with step:=0 },true):=by simp only [dU];rw [if_neg h1,if_neg s1,if_neg s2,if_pos s6]
     rw [hm];obtain⟨K1,a1,M,a3⟩:=L.st hbK k0 (i:=3) (v:=I 0) (by simp [bJ.av]) dJ;have k2':iD ls H.next (d.av.set 3 (I 0)) (H.next+1+1)=some zD9:=by rw [aB (by omega)];exact k2
     have dB:=M.lda ak (i:=0) (n:=9) (ys:=({ d with step:=0 }:bJ).av) rfl rfl (by decide);obtain⟨K2,u1,u2,u3,u4⟩:=M.whole (by rw [a3.base];exact hbK) k2' (n:=9) (vs:=({ d with step:=0 }:bJ).av) rfl rfl (by decide) (bC _);refine⟨K2,?_,by rw [fF h];exact u3.out,(s.trans a3).trans u4⟩;rw [s6] at d3;simp only [Nat.reduceLT,Int.reduceEq,xq_,GL,aF (bC d),aF (aP p),d0,dA,pA,hf,hff,zae,d3,a1,dB,u1,u2,uf]
    ·have hm:dU d bG ca p=(ca,.zero,false):=by simp only [dU];rw [if_neg h1,if_neg s1,if_neg s2,if_neg s6];rfl
     rw [hm];refine⟨Kz,?_,zu,s.trans z4⟩;simp only [Nat.reduceLT,xq_,GL,aF (bC d),aF (aP p),d0,dA,pA,hf,hff,zae,d3,s1,s2,s6,ez,z1,z2,uf,lC]
end
abbrev zE6:List AV:=[zI,zI,zI,zI,zB,zN]
theorem oK {n r gg i:Nat}{v u:AV}{K K':ah}(h:st n (.ref r gg i) v K=some (u,K')){x:Nat}(hx:x≠r):K'.get x=K.get x:=by
 unfold st at h;simp only at h;cases hr:K.get r with
 | map k es=> rw [hr] at h;cases h
 | blk g' ty cells=>
  rw [hr] at h;simp only at h;split at h
  ·simp only [zaa,zad] at h;rw [<-h.2,dQ,if_neg hx]
  ·cases h
section
variable {b:Nat}{H:ah}{g:bD}{q:Nat}{ca:Cache}
def uZ(d:bJ)(bG:Int)(c:Cache):Cache × bJ:=
 if d.next≠-1 then(c,{ d with step:=3 })
 else((c.put ⟨-1,-1,d.aj,0,true,d.data⟩).1,{ d with step:=6,aQ:=2,head:=bG,data:=[] })
theorem CS {K:ah}{ls:Lcl}(L:Loc b K g ls)(hb:K.base<=b)(h:g q=some (dn ca))(C:COk ca)(d:bJ)(bG:Int)(hd:d.data.length < 1000000000){r r':Nat}(hrr:r≠r')(k0:ls r=some d.av)(k1:ls r'=some zD9):
  ∃H',Af cl (I bG) (.ref q 0 0) (.ref r 0 0) (.ref r' 0 0) K=some (.agg (uZ d bG ca).2.av,H')/\Good b H' (upd g q (dn (uZ d bG ca).1))/\Step b K H':=by
 have d7:=L.ld k0 (i:=7) (v:=I d.next) rfl;by_cases hn:d.next=-1
 rotate_left
 ·have hm:uZ d bG ca=(ca,{ d with step:=3 }):=by unfold uZ;rw [if_pos hn]
  rw [hm];obtain⟨K1,a1,M1,a3⟩:=L.st hb k0 (i:=3) (v:=I 3) (by simp [bJ.av]) dJ;have k2':iD ls r (d.av.set 3 (I 3)) r'=some zD9:=by rw [aB hrr.symm];exact k1
  have dB:=M1.lda ak (i:=0) (n:=9) (ys:=({ d with step:=3 }:bJ).av) rfl rfl (by decide);obtain⟨K2,u1,u2,u3,u4⟩:=M1.whole (by rw [a3.base];exact hb) k2' (n:=9) (vs:=({ d with step:=3 }:bJ).av) rfl rfl (by decide) (bC _);refine⟨K2,?_,by rw [fF h];exact u3.out,a3.trans u4⟩;simp only [Int.reduceNeg,xq_,Af,d7,hn,zal,a1,dB,u1,u2]
 ·have hm:uZ d bG ca=((ca.put ⟨-1,-1,d.aj,0,true,d.data⟩).1,{ d with step:=6,aQ:=2,head:=bG,data:=[] }):=by unfold uZ;rw [if_neg (λh=> h hn)]
  rw [hm];have d1:=L.ld k0 (i:=1) (v:=I d.aj) rfl;have d6:=L.ld k0 (i:=6) (v:=dat d.data) rfl;have e1:=λH=> aaB H d.aj (-1) (-1) true hd (pV H d.data);obtain⟨K1,a1,a2,a3⟩:=AB L.good hb (L.obj h) C ⟨-1,-1,d.aj,0,true,d.data⟩ hd;have M1:=L.call h a2;obtain⟨K2,u2,M2,w2⟩:=M1.st (by rw [a3.base];exact hb) k0 (i:=3) (v:=I 6) (by simp [bJ.av]) dJ;have t2:=a3.trans w2;obtain⟨K3,u3,M3,w3⟩:=M2.st (by rw [t2.base];exact hb) ak (i:=4) (v:=I 2) (by simp [bJ.av]) dJ;have t3:=t2.trans w3;obtain⟨K4,u4,M4,w4⟩:=M3.st (by rw [t3.base];exact hb) ak (i:=5) (v:=I bG) (by simp [bJ.av]) dJ;have t4:=t3.trans w4;obtain⟨K5,u5,M5,w5⟩:=M4.st (by rw [t4.base];exact hb) ak (i:=6) (v:=zN) (by simp [bJ.av]) qm;have t5:=t4.trans w5;have f1:=M5.lda ak (i:=0) (n:=9) (ys:=(bJ.mk d.aO d.aj d.id 6 2 bG [] d.next d.told).av) (by simp only [bJ.av,DK];rfl) rfl (by decide);have hne:r'≠r:=hrr.symm;obtain⟨K7,u7,v7,M7,w7⟩:=M5.whole (by rw [t5.base];exact hb) (r:=r') (xs:=zD9) (by rw [aB hne,aB hne,aB hne,aB hne];exact k1) (n:=9) (vs:=(bJ.mk d.aO d.aj d.id 6 2 bG [] d.next d.told).av) rfl rfl (by decide) (bC _);refine⟨K7,?_,M7.out,t5.trans w7⟩;simp only [hn] at u7 v7;simp only [Int.reduceNeg,xq_,Af,d7,hn,zae,d1,d6,e1,a1,u2,u3,u4,u5,f1,u7,v7]
theorem aix(G:Good b H g)(hb:H.base<=b)(h:g q=some (dn ca))(C:COk ca)(d:bJ)(bG:Int)(hd:d.data.length < 1000000000):
  ∃H',cl 219 [.agg d.av,I bG,.ref q 0 0] H=some (.agg (dD d bG ca).2.av,H')/\Good b H' (upd g q (dn (dD d bG ca).1))/\Step b H H':=by
 refine kD rfl rfl (amB _ _ _ _ _) ?_;have L1:=(Loc.of G).newL (ty:=73) (xs:=d.av) (r:=H.next) (bC d) rfl;have L2:=L1.newL (ty:=73) (xs:=zD9) (r:=H.next+1) rfl (by rw [fA]);have d1:=L2.ld (r:=H.next) (i:=1) (v:=I d.aj) (by(repeat rw [aB (by omega)]);first | exact k0 | exact k1 | exact k2 | rw [ak]) rfl;have ef:=qF L2.good (L2.obj h) C.len C.dat d.aj;have L3:=L2.newL (ty:=100) (xs:=zE6) (r:=H.next+1+1) rfl (by rw [fA,fA]);have s3:Step b H _:=((Step.new (.blk 0 73 d.av) G.1).trans (Step.new (.blk 0 73 zD9) L1.good.1)).trans (Step.new (.blk 0 100 zE6) L2.good.1);obtain⟨K1,z1,z2,M,z4⟩:=L3.whole (by rw [s3.base];exact hb) (r:=H.next+1+1) (xs:=zE6) (by(repeat rw [aB (by omega)]);first | exact k0 | exact k1 | exact k2 | rw [ak]) (n:=6) (vs:=((ca.find d.aj).getD .zero).av) rfl rfl (by decide) (kV _);have t1:=s3.trans z4;have d7:=M.ld (r:=H.next) (i:=7) (v:=I d.next) (by(repeat rw [aB (by omega)]);first | exact k0 | exact k1 | exact k2 | rw [ak]) rfl;simp only [oP] at ef;cases hfd:ca.find d.aj with
 | none=>
  have hm:dD d bG ca=uZ d bG ca:=by simp only [dD,hfd];rfl
  rw [hm];rw [hfd] at ef z1;simp only [zaG] at ef;obtain⟨K2,u1,u2,u3⟩:=CS M (by rw [t1.base];exact hb) h C d bG hd (r:=H.next) (r':=H.next+1) (by omega) (by(repeat rw [aB (by omega)]);first | exact k0 | exact k1 | exact k2 | rw [ak]) (by(repeat rw [aB (by omega)]);first | exact k0 | exact k1 | exact k2 | rw [ak]);refine⟨K2,?_,u2,t1.trans u3⟩;by_cases hn:d.next=bG
  ·rw [hn] at d7;simp only [Nat.reduceLT,xq_,PI,aF (bC d),d1,ef,z1,d7];exact u1
  ·simp only [Nat.reduceLT,xq_,PI,aF (bC d),d1,ef,z1,d7,hn];exact u1
 | some own=>
  rw [hfd] at ef z1 M;simp only [zaI,zar] at ef z1 M;by_cases hn:d.next=bG
  ·have hm:dD d bG ca=uZ { d with next:=own.fwd } bG ca:=by simp only [dD,hfd];rw [if_pos hn];rfl
   rw [hm];have e0:=M.ld (r:=H.next+1+1) (i:=0) (v:=I own.fwd) (by(repeat rw [aB (by omega)]);first | exact k0 | exact k1 | exact k2 | rw [ak]) rfl;obtain⟨K2,y1,M2,y3⟩:=M.st (by rw [t1.base];exact hb) (r:=H.next) (xs:=d.av) (by(repeat rw [aB (by omega)]);first | exact k0 | exact k1 | exact k2 | rw [ak]) (i:=7) (v:=I own.fwd) (by simp [bJ.av]) dJ;have t2:=t1.trans y3;obtain⟨K3,u1,u2,u3⟩:=CS M2 (by rw [t2.base];exact hb) h C { d with next:=own.fwd } bG hd (r:=H.next) (r':=H.next+1) (by omega) (by rw [ak];rfl) (by(repeat rw [aB (by omega)]);first | exact k0 | exact k1 | exact k2 | rw [ak]);refine⟨K3,?_,u2,t2.trans u3⟩;rw [hn] at d7;simp only [Nat.reduceLT,xq_,PI,aF (bC d),d1,ef,z1,d7,e0,y1];exact u1
  ·have hm:dD d bG ca=uZ d bG ca:=by simp only [dD,hfd];rw [if_neg hn];rfl
   rw [hm];obtain⟨K2,u1,u2,u3⟩:=CS M (by rw [t1.base];exact hb) h C d bG hd (r:=H.next) (r':=H.next+1) (by omega) (by(repeat rw [aB (by omega)]);first | exact k0 | exact k1 | exact k2 | rw [ak]) (by(repeat rw [aB (by omega)]);first | exact k0 | exact k1 | exact k2 | rw [ak]);refine⟨K2,?_,u2,t1.trans u3⟩;simp only [Nat.reduceLT,xq_,PI,aF (bC d),d1,ef,z1,d7,hn];exact u1
theorem AL {K:ah}{ls:Lcl}(L:Loc b K g ls)(hb:K.base<=b)(h:g q=some (dn ca))(C:COk ca)(d:bJ)(bG:Int)(hd:d.data.length < 1000000000){r r':Nat}(k0:ls r=some d.av)(k1:ls r'=some zD9):
  ∃K1 H',lda 9 (.ref r 0 0) K=some (.agg d.av,K)/\cl 219 [.agg d.av,I bG,.ref q 0 0] K=some (.agg (dD d bG ca).2.av,K1)/\st 9 (.ref r' 0 0) (.agg (dD d bG ca).2.av) K1=some (aY,H')/\
   lda 9 (.ref r' 0 0) H'=some (.agg (dD d bG ca).2.av,H')/\Good b H' (upd g q (dn (dD d bG ca).1))/\Step b K H':=by
 obtain⟨K1,a1,a2,a3⟩:=aix L.good hb (L.obj h) C d bG hd;have M:=L.call h a2;obtain⟨K2,u1,u2,u3,u4⟩:=M.whole (by rw [a3.base];exact hb) k1 (n:=9) (vs:=(dD d bG ca).2.av) rfl rfl (by decide) (bC _);exact⟨K1,K2,L.lda k0 (i:=0) (n:=9) (ys:=d.av) rfl rfl (by decide),a1,u1,u2,u3.out,a3.trans u4⟩
theorem adC(G:Good b H g)(hb:H.base<=b)(h:g q=some (dn ca))(C:COk ca)(d:bJ)(bG:Int)(p:Pkt)(hd:d.data.length < 1000000000)(hp:p.data.length < 1000000000):
  ∃H',cl 185 [.agg d.av,I bG,.ref q 0 0,.agg p.av] H=some (uf (dV d bG ca p),H')/\Good b H' (upd g q (dn (dV d bG ca p).1))/\Step b H H':=by
 refine kD rfl rfl (al2 _ _ _ _ _ _) ?_;obtain⟨ls,L,k0,k1,k2,s⟩:=uY G d p;have d0:=L.ld k0 (i:=0) (v:=I d.aO) rfl;have d1:=L.ld k0 (i:=1) (v:=I d.aj) rfl;have dA:=L.lda k0 (i:=0) (n:=9) (ys:=d.av) rfl rfl (by decide);have pA:=L.lda k1 (i:=0) (n:=9) (ys:=p.av) rfl rfl (by decide);have hf:=λH=> Tz H d p;have ez:bd 73 []=some (.agg zD9):=by simp only [xq_,Wx,jX,dX]
 have hbK:(((H.new (.blk 0 73 d.av)).new (.blk 0 81 p.av)).new (.blk 0 73 zD9)).base<=b:=by rw [s.base];exact hb
 obtain⟨Kz,z1,z2,z3,z4⟩:=L.whole hbK k2 (n:=9) (vs:=zD9) rfl rfl (by decide) rfl;have zu:Good b Kz (upd g q (dn ca)):=by rw [fF h];exact z3.out
 by_cases h1:d.aO≠2∨d.fits p=false
 ·have hm:dV d bG ca p=(ca,.zero,false):=by simp only [dV];rw [if_pos h1];rfl
  rw [hm];refine⟨Kz,?_,zu,s.trans z4⟩;by_cases hk:d.aO=2
  ·have hff:d.fits p=false:=h1.resolve_left (λh=> h hk);rw [hk] at d0;simp only [Nat.reduceLT,xq_,zZ,aF (bC d),aF (aP p),d0,dA,pA,hf,hff,zae,zal,ez,z1,z2,uf,lC]
  ·simp only [Nat.reduceLT,xq_,zZ,aF (bC d),aF (aP p),d0,hk,zal,ez,z1,z2,uf,lC]
 ·have hk:d.aO=2:=Classical.byContradiction λh=> h1 (.inl h);have hff:d.fits p=true:=by cases hx:d.fits p <;> simp_all
  rw [hk] at d0;have ef:=qF L.good (L.obj h) C.len C.dat d.aj;simp only [oP] at ef;have LE:=L.newL (ty:=100) (xs:=zE6) (r:=H.next+1+1+1) rfl (by rw [fA,fA,fA]);have sE:Step b H _:=s.trans (Step.new (.blk 0 100 zE6) L.good.1);obtain⟨KE,x1,x2,M,x4⟩:=LE.whole (by rw [sE.base];exact hb) (r:=H.next+1+1+1) (xs:=zE6) (by(repeat rw [aB (by omega)]);first | exact k0 | exact k1 | exact k2 | rw [ak]) (n:=6) (vs:=((ca.find d.aj).getD .zero).av) rfl rfl (by decide) (kV _);have t1:=sE.trans x4;have d3:=M.ld (r:=H.next) (xs:=d.av) (i:=3) (v:=I d.step) (by(repeat rw [aB (by omega)]);first | exact k0 | exact k1 | exact k2 | rw [ak]) rfl;have hbE:KE.base<=b:=by rw [t1.base];exact hb
  have e5:=M.ld (r:=H.next+1+1+1) (i:=5) (v:=dat ((ca.find d.aj).getD .zero).data) (by(repeat rw [aB (by omega)]);first | exact k0 | exact k1 | exact k2 | rw [ak]) rfl;have hown:((ca.find d.aj).getD .zero).data.length < 1000000000:=by
   cases hx:ca.find d.aj with
   | none=> exact(by decide:([]:List Int).length < 1000000000)
   | some own=> exact C.dat own (za7 hx)
  have e2:=λH=> jL H p.data hp;by_cases s1:d.step=1
  ·rw [s1] at d3;have p6:=M.ld (r:=H.next+1) (xs:=p.av) (i:=6) (v:=I p.aQ) (by(repeat rw [aB (by omega)]);first | exact k0 | exact k1 | exact k2 | rw [ak]) rfl;have p5:=M.ld (r:=H.next+1) (xs:=p.av) (i:=5) (v:=I p.ptr) (by(repeat rw [aB (by omega)]);first | exact k0 | exact k1 | exact k2 | rw [ak]) rfl;have p8:=M.ld (r:=H.next+1) (xs:=p.av) (i:=8) (v:=dat p.data) (by(repeat rw [aB (by omega)]);first | exact k0 | exact k1 | exact k2 | rw [ak]) rfl;obtain⟨K2,u2,M2,w2⟩:=M.st hbE (r:=H.next) (xs:=d.av) (by(repeat rw [aB (by omega)]);first | exact k0 | exact k1 | exact k2 | rw [ak]) (i:=4) (v:=I p.aQ) (by simp [bJ.av]) dJ;have t2:=t1.trans w2;obtain⟨K3,u3,M3,w3⟩:=M2.st (by rw [t2.base];exact hb) (r:=H.next) ak (i:=5) (v:=I p.ptr) (by simp [bJ.av]) dJ;have t3:=t2.trans w3;obtain⟨K4,u4,M4,w4⟩:=M3.st (by rw [t3.base];exact hb) (r:=H.next) ak (i:=8) (v:=I p.ptr) (by simp [bJ.av]) dJ;have t4:=t3.trans w4;obtain⟨K5,u5,M5,w5⟩:=M4.st (by rw [t4.base];exact hb) (r:=H.next) ak (i:=6) (v:=dat p.data) (by simp [bJ.av]) rW;have t5:=t4.trans w5;have c1:∀{β:Type} (k:Option β),ck (bQ (.ref (H.next+1) 0 5)) KE K2 k=k:=λk=> vN (oK u2 (by omega));have c2:∀{β:Type} (k:Option β),ck (bQ (.ref (H.next+1) 0 5)) K2 K3 k=k:=λk=> vN (oK u3 (by omega));cases hx:ca.find d.aj with
   | none=>
    have hm:dV d bG ca p=((dD { d with aQ:=p.aQ,head:=p.ptr,told:=p.ptr,data:=p.data,next:=p.ptr } bG ca).1,(dD { d with aQ:=p.aQ,head:=p.ptr,told:=p.ptr,data:=p.data,next:=p.ptr } bG ca).2,true):=by
     simp only [dV,hx];rw [if_neg h1,if_pos s1]
    rw [hm];rw [hx] at ef x1;simp only [zaG] at ef;have n5:=M5.ld (r:=H.next) ak (i:=5) (v:=I p.ptr) rfl;obtain⟨K6,u6,M6,w6⟩:=M5.st (by rw [t5.base];exact hb) (r:=H.next) ak (i:=7) (v:=I p.ptr) (by simp [bJ.av]) dJ;have t6:=t5.trans w6;obtain⟨K7,K8,v1,v2,v3,v4,v5,v6⟩:=AL M6 (by rw [t6.base];exact hb) h C { d with aQ:=p.aQ,head:=p.ptr,told:=p.ptr,data:=p.data,next:=p.ptr } bG hp (r:=H.next) (r':=H.next+1+1) (by rw [ak];rfl) (by(repeat rw [aB (by omega)]);first | exact k0 | exact k1 | exact k2 | rw [ak]);refine⟨K8,?_,v5,t6.trans v6⟩;simp only [Nat.reduceLT,Int.reduceEq,xq_,zZ,aF (bC d),aF (aP p),d0,dA,pA,hf,hff,zae,d1,ef,x1,d3,p6,p5,p8,e2,u2,u3,u4,u5,c1,c2,EC,n5,u6,v1,v2,v3,v4,uf]
   | some own=>
    have hm:dV d bG ca p=((dD { d with aQ:=p.aQ,head:=p.ptr,told:=p.ptr,data:=own.data,next:=p.ptr } bG ca).1,(dD { d with aQ:=p.aQ,head:=p.ptr,told:=p.ptr,data:=own.data,next:=p.ptr } bG ca).2,true):=by
     simp only [dV,hx];rw [if_neg h1,if_pos s1]
    rw [hm];rw [hx] at ef x1 e5;simp only [zaI,zar] at ef x1 e5;have e5':=M5.ld (r:=H.next+1+1+1) (i:=5) (v:=dat ((ca.find d.aj).getD .zero).data) (by(repeat rw [aB (by omega)]);first | exact k0 | exact k1 | exact k2 | rw [ak]) rfl;rw [hx] at e5';simp only [zar] at e5';obtain⟨K5',u5',M5',w5'⟩:=M5.st (by rw [t5.base];exact hb) (r:=H.next) ak (i:=6) (v:=dat own.data) (by simp [bJ.av]) rW;have t5':=t5.trans w5';have n5:=M5'.ld (r:=H.next) ak (i:=5) (v:=I p.ptr) rfl;obtain⟨K6,u6,M6,w6⟩:=M5'.st (by rw [t5'.base];exact hb) (r:=H.next) ak (i:=7) (v:=I p.ptr) (by simp [bJ.av]) dJ;have t6:=t5'.trans w6;obtain⟨K7,K8,v1,v2,v3,v4,v5,v6⟩:=AL M6 (by rw [t6.base];exact hb) h C { d with aQ:=p.aQ,head:=p.ptr,told:=p.ptr,data:=own.data,next:=p.ptr } bG (C.dat own (za7 hx)) (r:=H.next) (r':=H.next+1+1) (by rw [ak];rfl) (by(repeat rw [aB (by omega)]);first | exact k0 | exact k1 | exact k2 | rw [ak]);refine⟨K8,?_,v5,t6.trans v6⟩;simp only [Nat.reduceLT,Int.reduceEq,xq_,zZ,aF (bC d),aF (aP p),d0,dA,pA,hf,hff,zae,d1,ef,x1,d3,p6,p5,p8,e2,u2,u3,u4,u5,c1,c2,e5',u5',EC,n5,u6,v1,v2,v3,v4,uf]
  ·by_cases s3:d.step=3
   ·rw [s3] at d3;cases hx:ca.find d.aj with
    | none=>
     have hm:dV d bG ca p=((dD { d with data:=p.data,next:=p.ptr } bG ca).1,(dD { d with data:=p.data,next:=p.ptr } bG ca).2,true):=by
      simp only [dV,hx];rw [if_neg h1,if_neg s1,if_pos s3]
     rw [hm];rw [hx] at ef x1;simp only [zaG] at ef;have p8:=M.ld (r:=H.next+1) (xs:=p.av) (i:=8) (v:=dat p.data) (by(repeat rw [aB (by omega)]);first | exact k0 | exact k1 | exact k2 | rw [ak]) rfl;obtain⟨K5,u5,M5,w5⟩:=M.st hbE (r:=H.next) (xs:=d.av) (by(repeat rw [aB (by omega)]);first | exact k0 | exact k1 | exact k2 | rw [ak]) (i:=6) (v:=dat p.data) (by simp [bJ.av]) rW;have t5:=t1.trans w5;have p5:=M5.ld (r:=H.next+1) (xs:=p.av) (i:=5) (v:=I p.ptr) (by(repeat rw [aB (by omega)]);first | exact k0 | exact k1 | exact k2 | rw [ak]) rfl;obtain⟨K6,u6,M6,w6⟩:=M5.st (by rw [t5.base];exact hb) (r:=H.next) ak (i:=7) (v:=I p.ptr) (by simp [bJ.av]) dJ;have t6:=t5.trans w6;obtain⟨K7,K8,v1,v2,v3,v4,v5,v6⟩:=AL M6 (by rw [t6.base];exact hb) h C { d with data:=p.data,next:=p.ptr } bG hp (r:=H.next) (r':=H.next+1+1) (by rw [ak];rfl) (by(repeat rw [aB (by omega)]);first | exact k0 | exact k1 | exact k2 | rw [ak]);refine⟨K8,?_,v5,t6.trans v6⟩;simp only [Nat.reduceLT,Int.reduceEq,xq_,zZ,aF (bC d),aF (aP p),d0,dA,pA,hf,hff,zae,zal,d1,ef,x1,d3,p5,p8,e2,u5,ED,u6,v1,v2,v3,v4,uf]
    | some own=>
     have hm:dV d bG ca p=((dD { d with data:=d.data,next:=p.ptr } bG ca).1,(dD { d with data:=d.data,next:=p.ptr } bG ca).2,true):=by
      simp only [dV,hx];rw [if_neg h1,if_neg s1,if_pos s3]
     rw [hm];rw [hx] at ef x1;simp only [zaI,zar] at ef x1;have p5:=M.ld (r:=H.next+1) (xs:=p.av) (i:=5) (v:=I p.ptr) (by(repeat rw [aB (by omega)]);first | exact k0 | exact k1 | exact k2 | rw [ak]) rfl;obtain⟨K6,u6,M6,w6⟩:=M.st hbE (r:=H.next) (xs:=d.av) (by(repeat rw [aB (by omega)]);first | exact k0 | exact k1 | exact k2 | rw [ak]) (i:=7) (v:=I p.ptr) (by simp [bJ.av]) dJ;have t6:=t1.trans w6;obtain⟨K7,K8,v1,v2,v3,v4,v5,v6⟩:=AL M6 (by rw [t6.base];exact hb) h C { d with data:=d.data,next:=p.ptr } bG hd (r:=H.next) (r':=H.next+1+1) (by rw [ak];rfl) (by(repeat rw [aB (by omega)]);first | exact k0 | exact k1 | exact k2 | rw [ak]);refine⟨K8,?_,v5,t6.trans v6⟩;simp only [Nat.reduceLT,Int.reduceEq,xq_,zZ,aF (bC d),aF (aP p),d0,dA,pA,hf,hff,zae,d1,ef,x1,d3,p5,ED,u6,v1,v2,v3,v4,uf]
   ·by_cases s6:d.step=6
    ·have hm:dV d bG ca p=(ca,{ d with step:=0 },true):=by simp only [dV];rw [if_neg h1,if_neg s1,if_neg s3,if_pos s6]
     rw [hm];obtain⟨K1,a1,M1,a3⟩:=M.st hbE (r:=H.next) (xs:=d.av) (by(repeat rw [aB (by omega)]);first | exact k0 | exact k1 | exact k2 | rw [ak]) (i:=3) (v:=I 0) (by simp [bJ.av]) dJ;have dB:=M1.lda ak (i:=0) (n:=9) (ys:=({ d with step:=0 }:bJ).av) rfl rfl (by decide);obtain⟨K2,u1,u2,u3,u4⟩:=M1.whole (by rw [a3.base];exact hbE) (r:=H.next+1+1) (xs:=zD9) (by(repeat rw [aB (by omega)]);first | exact k0 | exact k1 | exact k2 | rw [ak]) (n:=9) (vs:=({ d with step:=0 }:bJ).av) rfl rfl (by decide) (bC _);refine⟨K2,?_,by rw [fF h];exact u3.out,(t1.trans a3).trans u4⟩;rw [s6] at d3;simp only [Nat.reduceLT,Int.reduceEq,xq_,zZ,aF (bC d),aF (aP p),d0,dA,pA,hf,hff,zae,d1,ef,x1,d3,a1,dB,u1,u2,uf]
    ·have hm:dV d bG ca p=(ca,.zero,false):=by simp only [dV];rw [if_neg h1,if_neg s1,if_neg s3,if_neg s6];rfl
     rw [hm];obtain⟨K2,u1,u2,u3,u4⟩:=M.whole hbE (r:=H.next+1+1) (xs:=zD9) (by(repeat rw [aB (by omega)]);first | exact k0 | exact k1 | exact k2 | rw [ak]) (n:=9) (vs:=zD9) rfl rfl (by decide) rfl;refine⟨K2,?_,by rw [fF h];exact u3.out,t1.trans u4⟩;simp only [Nat.reduceLT,xq_,zZ,aF (bC d),aF (aP p),d0,dA,pA,hf,hff,zae,d1,ef,x1,d3,s1,s3,s6,ez,u1,u2,uf,lC]
end
section
variable {b:Nat}{H:ah}{g:bD}{q:Nat}{ca:Cache}
theorem Loc.ext {K K':ah}{ls:Lcl}(L:Loc b K g ls)(M:Made K K' Aj):Loc b K' g ls:=⟨L.good.ext M.next M.same,L.free⟩
theorem anB(G:Good b H g)(hb:H.base<=b)(h:g q=some (dn ca))(C:COk ca)(d:bJ)(head:Int):
  ∃H',cl 221 [.agg d.av,.ref q 0 0,I head] H=some (.agg (gB d ca head).2.1.av,H')/\Good b H' (upd g q (dn (gB d ca head).1))/\Step b H H':=by
 refine kD rfl rfl (amE _ _ _ _ _) ?_;have L1:=(Loc.of G).newL (ty:=73) (xs:=d.av) (r:=H.next) (bC d) rfl;have L2:=L1.newL (ty:=73) (xs:=zD9) (r:=H.next+1) rfl (by rw [fA]);have s2:Step b H _:=(Step.new (.blk 0 73 d.av) G.1).trans (Step.new (.blk 0 73 zD9) L1.good.1);have d1:=L2.ld (r:=H.next) (i:=1) (v:=I d.aj) (by(repeat rw [aB (by omega)]);rw [ak]) rfl;obtain⟨K1,a1,a2,a3⟩:=Ho L2.good (by rw [s2.base];exact hb) (L2.obj h) C.len C.dat d.aj;have M1:=L2.call h a2;have t1:=s2.trans a3;obtain⟨K2,u2,M2,w2⟩:=M1.st (by rw [t1.base];exact hb) (r:=H.next) (xs:=d.av) (by(repeat rw [aB (by omega)]);rw [ak]) (i:=3) (v:=I 6) (by simp [bJ.av]) dJ;have t2:=t1.trans w2;obtain⟨K3,u3,M3,w3⟩:=M2.st (by rw [t2.base];exact hb) (r:=H.next) ak (i:=4) (v:=I 1) (by simp [bJ.av]) dJ;have t3:=t2.trans w3;obtain⟨K4,u4,M4,w4⟩:=M3.st (by rw [t3.base];exact hb) (r:=H.next) ak (i:=5) (v:=I head) (by simp [bJ.av]) dJ;have t4:=t3.trans w4;obtain⟨K5,u5,M5,w5⟩:=M4.st (by rw [t4.base];exact hb) (r:=H.next) ak (i:=6) (v:=zN) (by simp [bJ.av]) qm;have t5:=t4.trans w5;have f1:=M5.lda (r:=H.next) ak (i:=0) (n:=9) (ys:=(gB d ca head).2.1.av) (by simp only [gB,bJ.av,DK];rfl) rfl (by decide);obtain⟨K7,u7,v7,M7,w7⟩:=M5.whole (by rw [t5.base];exact hb) (r:=H.next+1) (xs:=zD9) (by(repeat rw [aB (by omega)]);rw [ak]) (n:=9) (vs:=(gB d ca head).2.1.av) rfl rfl (by decide) (bC _);refine⟨K7,?_,M7.out,t5.trans w7⟩;simp only [Nat.reduceLT,xq_,agi,aF (bC d),d1,a1,u2,u3,u4,u5,f1,u7,v7]
abbrev lnk(f bk:Int):List AV:=[I f,I bk]
theorem aaY(H:ah)(f bk:Int):∃H',cl 238 [.agg (lnk f bk)] H=some (B (decide (bk=-1)),H')/\(H.base<=H.next->Made H H' Aj):=by
 refine⟨H.new (.blk 0 98 (lnk f bk)),bg rfl rfl (amT _ _ _ ?_),λhb=> (Made.refl hb).new _⟩;simp only [Nat.reduceLT,Int.reduceNeg,xq_,hq_,ags,aF]
theorem aiy(H:ah)(f bk:Int):∃H',cl 243 [.agg (lnk f bk)] H=some (B (decide (f=-1)),H')/\(H.base<=H.next->Made H H' Aj):=by
 refine⟨H.new (.blk 0 98 (lnk f bk)),bg rfl rfl (amZ _ _ _ ?_),λhb=> (Made.refl hb).new _⟩;simp only [Nat.reduceLT,Int.reduceNeg,xq_,hq_,agu,aF]
theorem aiz(H:ah)(hb0:H.base<=H.next)(f bk:Int):∃H',cl 237 [.agg (lnk f bk)] H=some (B (decide (bk=-1/\f=-1)),H')/\Made H H' Aj:=by
 let H1:=H.new (.blk 0 98 (lnk f bk));have g1:H1.get H.next=.blk 0 98 (lnk f bk):=bF rfl
 have l1:lda 2 (.ref H.next 0 0) H1=some (.agg (lnk f bk),H1):=(gy (off:=0) (n:=2) g1 (zac 2)).trans rfl;obtain⟨H2,e1,M1⟩:=aaY H1 f bk;by_cases h:bk=-1
 ·have hd:decide (bk=-1)=true:=decide_eq_true h;rw [hd] at e1;have hb:H1.base<=H1.next:=by simp only [H1,jy,fA];omega
  have M:=M1 hb;have l2:lda 2 (.ref H.next 0 0) H2=some (.agg (lnk f bk),H2):=(gy (g:=0) (ty:=98) (off:=0) (n:=2) (xs:=lnk f bk) (by rw [M.same _ (by simp only [H1,fA];omega)];exact g1) (zac 2)).trans rfl;obtain⟨H3,e2,M2⟩:=aiy H2 f bk;have M3:=M2 (by rw [M.base];exact zau hb M.next);have M4:Made H1 H3 Aj:=⟨zau M.next M3.next,M3.base.trans M.base,λr hr=> by rw [M3.same r (zav hr M.next),M.same r hr],Good.empty' (zau M.next M3.next)⟩
  refine⟨H3,bg rfl rfl (agq _ _ _ ?_),M4.DI⟩;simp only [H1] at l1 e1;have hda:decide (bk=-1/\f=-1)=decide (f=-1):=by simp [h]
  rw [hda];simp only [Nat.reduceLT,Int.reduceNeg,xq_,Z7,aF (show(lnk f bk).all AV.aX=true from rfl),l1,e1,l2,e2]
 ·have hd:decide (bk=-1)=false:=decide_eq_false h;rw [hd] at e1;have hda:decide (bk=-1/\f=-1)=false:=by simp [h]
  refine⟨H2,bg rfl rfl (agq _ _ _ ?_),(M1 (by simp only [H1,jy,fA];omega)).DI⟩;simp only [H1] at l1 e1;rw [hda];simp only [Nat.reduceLT,xq_,Z7,aF (show(lnk f bk).all AV.aX=true from rfl),l1,e1]
end
section
variable {b:Nat}{H:ah}{g:bD}{q:Nat}{ca:Cache}
def kY(d:bJ)(c:Cache)(p:Pkt):Cache × bJ:=
 let d:bJ:={ d with aQ:=p.aQ,head:=p.ptr,told:=p.ptr,data:=[],step:=6 }
 match c.find d.aj with
 | none=> (c,d)
 | some e=>
  if e.back=-1/\e.fwd=-1 then(c.drop d.aj,{ d with aQ:=0,head:=-1,data:=if e.bZ then e.data else [] })
  else if e.back=-1 then(c,{ d with head:=-1,next:=e.fwd,step:=5 })
  else(c,{ d with head:=e.back,next:=e.fwd,step:=4 })
theorem Xj(G:Good b H g)(hb:H.base<=b)(h:g q=some (dn ca))(C:COk ca)(d:bJ)(p:Pkt):
  ∃H',cl 220 [.agg d.av,.ref q 0 0,.agg p.av] H=some (.agg (kY d ca p).2.av,H')/\Good b H' (upd g q (dn (kY d ca p).1))/\Step b H H':=by
 refine kD rfl rfl (amD _ _ _ _ _) ?_;obtain⟨ls,L,k0,k1,k2,s⟩:=uY G d p;have hbK:(((H.new (.blk 0 73 d.av)).new (.blk 0 81 p.av)).new (.blk 0 73 zD9)).base<=b:=by rw [s.base];exact hb
 have p6:=L.ld k1 (i:=6) (v:=I p.aQ) rfl;have p5:=L.ld k1 (i:=5) (v:=I p.ptr) rfl;obtain⟨K2,u2,M2,w2⟩:=L.st hbK (r:=H.next) k0 (i:=4) (v:=I p.aQ) (by simp [bJ.av]) dJ;have t2:=s.trans w2;obtain⟨K3,u3,M3,w3⟩:=M2.st (by rw [t2.base];exact hb) (r:=H.next) ak (i:=5) (v:=I p.ptr) (by simp [bJ.av]) dJ;have t3:=t2.trans w3;obtain⟨K4,u4,M4,w4⟩:=M3.st (by rw [t3.base];exact hb) (r:=H.next) ak (i:=8) (v:=I p.ptr) (by simp [bJ.av]) dJ;have t4:=t3.trans w4;obtain⟨K5,u5,M5,w5⟩:=M4.st (by rw [t4.base];exact hb) (r:=H.next) ak (i:=6) (v:=zN) (by simp [bJ.av]) qm;have t5:=t4.trans w5;have c1:∀{β:Type} (k:Option β),ck (bQ (.ref (H.next+1) 0 5)) (((H.new (.blk 0 73 d.av)).new (.blk 0 81 p.av)).new (.blk 0 73 zD9)) K2 k=k:=λk=> vN (oK u2 (by omega));have c2:∀{β:Type} (k:Option β),ck (bQ (.ref (H.next+1) 0 5)) K2 K3 k=k:=λk=> vN (oK u3 (by omega));obtain⟨K6,u6,M6,w6⟩:=M5.st (by rw [t5.base];exact hb) (r:=H.next) ak (i:=3) (v:=I 6) (by simp [bJ.av]) dJ;have t6:=t5.trans w6;let d2:bJ:={ d with aQ:=p.aQ,head:=p.ptr,told:=p.ptr,data:=[],step:=6 }
 have e2:(((((d.av.set 4 (I p.aQ)).set 5 (I p.ptr)).set 8 (I p.ptr)).set 6 zN).set 3 (I 6))=d2.av:=by simp only [d2,bJ.av,DK];rfl
 rw [e2] at M6;have k0':∀(l:Lcl) (x:List AV),iD l H.next x H.next=some x:=λ_ _=> ak
 have d1:=M6.ld (r:=H.next) ak (i:=1) (v:=I d.aj) rfl;have ef:=qF M6.good (M6.obj h) C.len C.dat d.aj;simp only [oP] at ef;have LE:=M6.newL (ty:=100) (xs:=zE6) (r:=K6.next) rfl rfl;have z2:iD (iD (iD (iD (iD ls H.next (d.av.set 4 (I p.aQ))) H.next ((d.av.set 4 (I p.aQ)).set 5 (I p.ptr))) H.next (((d.av.set 4 (I p.aQ)).set 5 (I p.ptr)).set 8 (I p.ptr))) H.next ((((d.av.set 4 (I p.aQ)).set 5 (I p.ptr)).set 8 (I p.ptr)).set 6 zN)) H.next d2.av (H.next+1+1)=some zD9:=by
  rw [aB (by omega),aB (by omega),aB (by omega),aB (by omega),aB (by omega)];exact k2
 have n6:H.next+1+1 < K6.next:=M6.good.lt (pK (g:=g) z2)
 obtain⟨KE,x1,x2,ME,x4⟩:=LE.whole (by rw [jy,t6.base];exact hb) (r:=K6.next) ak (n:=6) (vs:=((ca.find d.aj).getD .zero).av) rfl rfl (by decide) (kV _);have tE:=(t6.trans (Step.new (.blk 0 100 zE6) M6.good.1)).trans x4;have hbE:KE.base<=b:=by rw [tE.base];exact hb
 generalize hls:iD (iD (iD (iD (iD (iD (iD ls H.next (d.av.set 4 (I p.aQ))) H.next ((d.av.set 4 (I p.aQ)).set 5 (I p.ptr))) H.next (((d.av.set 4 (I p.aQ)).set 5 (I p.ptr)).set 8 (I p.ptr))) H.next ((((d.av.set 4 (I p.aQ)).set 5 (I p.ptr)).set 8 (I p.ptr)).set 6 zN)) H.next d2.av) K6.next zE6) K6.next ((ca.find d.aj).getD .zero).av=lz at ME
 have y0:lz H.next=some d2.av:=by rw [<-hls,aB (by omega),aB (by omega),ak]
 have y2:lz (H.next+1+1)=some zD9:=by rw [<-hls,aB (by omega),aB (by omega)];exact z2
 have y3:lz K6.next=some ((ca.find d.aj).getD .zero).av:=by rw [<-hls,ak]
 have fin:∀{Kx:ah} {lx:Lcl} {gx:bD} (dx:bJ),Loc b Kx gx lx->Kx.base<=b->lx H.next=some dx.av->lx (H.next+1+1)=some zD9->∃H',lda 9 (.ref H.next 0 0) Kx=some (.agg dx.av,Kx)/\st 9 (.ref (H.next+1+1) 0 0) (.agg dx.av) Kx=some (aY,H')/\lda 9 (.ref (H.next+1+1) 0 0) H'=some (.agg dx.av,H')/\Good b H' gx/\Step b Kx H':=λdx Lx hbx q0 q2=> by
  obtain⟨K',v1,v2,v3,v4⟩:=Lx.whole hbx q2 (n:=9) (vs:=dx.av) rfl rfl (by decide) (bC _);exact⟨K',Lx.lda q0 (i:=0) (n:=9) (ys:=dx.av) rfl rfl (by decide),v1,v2,v3.out,v4⟩
 cases hfd:ca.find d.aj with
 | none=>
  have hm:kY d ca p=(ca,d2):=by simp only [kY,hfd,d2]
  rw [hm];rw [hfd] at ef x1;simp only [zaG] at ef;obtain⟨H',f1,f2,f3,f4,f5⟩:=fin d2 ME hbE y0 y2;refine⟨H',?_,by rw [fF h];exact f4,tE.trans f5⟩;simp only [Nat.reduceLT,Int.reduceNeg,xq_,JK,aF (bC d),aF (aP p),p6,p5,u2,u3,u4,u5,c1,c2,u6,d1,ef,x1,zal,f1,f2,f3]
 | some e=>
  rw [hfd] at ef x1 y3;simp only [zaI,zar] at ef x1 y3;have l2:=ME.lda y3 (i:=0) (n:=2) (ys:=lnk e.fwd e.back) rfl rfl (by decide);obtain⟨KO,o1,o2⟩:=aiz KE (zau hbE ME.good.1) e.fwd e.back;have MO:=ME.ext o2;have hbO:KO.base<=b:=by rw [o2.base];exact hbE
  have tO:Step b H KO:=tE.trans ⟨o2.base,o2.next,λr hr=> o2.same r (zav hr ME.good.1)⟩;by_cases h1:e.back=-1/\e.fwd=-1
  ·have dl:=MO.ld y0 (i:=1) (v:=I d.aj) rfl;obtain⟨K7,a1,a2,a3⟩:=Ho MO.good hbO (MO.obj h) C.len C.dat d.aj;have M7:=MO.call h a2;have t7:=tO.trans a3;obtain⟨K8,u8,M8,w8⟩:=M7.st (by rw [t7.base];exact hb) y0 (i:=4) (v:=I 0) (by simp [bJ.av]) dJ;have t8:=t7.trans w8;obtain⟨K9,u9,M9,w9⟩:=M8.st (by rw [t8.base];exact hb) (r:=H.next) ak (i:=5) (v:=I (-1)) (by simp [bJ.av]) dJ;have t9:=t8.trans w9;have y3':iD (iD lz H.next (d2.av.set 4 (I 0))) H.next ((d2.av.set 4 (I 0)).set 5 (I (-1))) K6.next=some e.av:=by rw [aB (by omega),aB (by omega)];exact y3
   have y2':iD (iD lz H.next (d2.av.set 4 (I 0))) H.next ((d2.av.set 4 (I 0)).set 5 (I (-1))) (H.next+1+1)=some zD9:=by rw [aB (by omega),aB (by omega)];exact y2
   have ed:=M9.ld y3' (i:=4) (v:=B e.bZ) rfl;rw [decide_eq_true h1] at o1;cases hdy:e.bZ with
   | false=>
    have hm:kY d ca p=(ca.drop d.aj,{ d2 with aQ:=0,head:=-1,data:=[] }):=by
     simp only [kY,hfd,d2];rw [if_pos h1,hdy];rfl
    rw [hm];rw [hdy] at ed;obtain⟨H',f1,f2,f3,f4,f5⟩:=fin { d2 with aQ:=0,head:=-1,data:=[] } M9 (by rw [t9.base];exact hb) (by rw [ak];rfl) y2';refine⟨H',?_,f4,t9.trans f5⟩;simp only [Nat.reduceLT,Int.reduceNeg,xq_,JK,rD,aF (bC d),aF (aP p),p6,p5,u2,u3,u4,u5,c1,c2,u6,d1,ef,x1,zae,l2,o1,dl,a1,u8,u9,ed,f1,f2,f3]
   | true=>
    have hm:kY d ca p=(ca.drop d.aj,{ d2 with aQ:=0,head:=-1,data:=e.data }):=by
     simp only [kY,hfd,d2];rw [if_pos h1,hdy];rfl
    rw [hm];rw [hdy] at ed;have ex:=M9.ld y3' (i:=5) (v:=dat e.data) rfl;obtain⟨K10,u10,M10,w10⟩:=M9.st (by rw [t9.base];exact hb) (r:=H.next) ak (i:=6) (v:=dat e.data) (by simp [bJ.av]) rW;have t10:=t9.trans w10;obtain⟨H',f1,f2,f3,f4,f5⟩:=fin { d2 with aQ:=0,head:=-1,data:=e.data } M10 (by rw [t10.base];exact hb) (by rw [ak];rfl) (by rw [aB (by omega)];exact y2');refine⟨H',?_,f4,t10.trans f5⟩;simp only [Nat.reduceLT,Int.reduceNeg,xq_,JK,rD,aF (bC d),aF (aP p),p6,p5,u2,u3,u4,u5,c1,c2,u6,d1,ef,x1,zae,l2,o1,dl,a1,u8,u9,ed,ex,u10,f1,f2,f3]
  ·have l2':=MO.lda y3 (i:=0) (n:=2) (ys:=lnk e.fwd e.back) rfl rfl (by decide);obtain⟨KH,q1,q2'⟩:=aaY KO e.fwd e.back;have q2:=q2' (zau hbO MO.good.1);have MH:=MO.ext q2;have hbH:KH.base<=b:=by rw [q2.base];exact hbO
   have tH:Step b H KH:=tO.trans ⟨q2.base,q2.next,λr hr=> q2.same r (zav hr MO.good.1)⟩;rw [decide_eq_false h1] at o1;have g0:=MH.ld y3 (i:=0) (v:=I e.fwd) rfl;have g1:=MH.ld y3 (i:=1) (v:=I e.back) rfl;by_cases h2:e.back=-1
   ·have hm:kY d ca p=(ca,{ d2 with head:=-1,next:=e.fwd,step:=5 }):=by
     simp only [kY,hfd,d2];rw [if_neg h1,if_pos h2]
    rw [hm];rw [decide_eq_true h2] at q1;obtain⟨K8,u8,M8,w8⟩:=MH.st hbH y0 (i:=5) (v:=I (-1)) (by simp [bJ.av]) dJ;have t8:=tH.trans w8;obtain⟨K9,u9,M9,w9⟩:=M8.st (by rw [t8.base];exact hb) (r:=H.next) ak (i:=7) (v:=I e.fwd) (by simp [bJ.av]) dJ;have t9:=t8.trans w9;obtain⟨K10,u10,M10,w10⟩:=M9.st (by rw [t9.base];exact hb) (r:=H.next) ak (i:=3) (v:=I 5) (by simp [bJ.av]) dJ;have t10:=t9.trans w10;have c3:∀{β:Type} (k:Option β),ck (bQ (.ref K6.next 0 0)) KH K8 k=k:=λk=> vN (oK u8 (by omega));obtain⟨H',f1,f2,f3,f4,f5⟩:=fin { d2 with head:=-1,next:=e.fwd,step:=5 } M10 (by rw [t10.base];exact hb) (by rw [ak];rfl) (by rw [aB (by omega),aB (by omega),aB (by omega)];exact y2);refine⟨H',?_,by rw [fF h];exact f4,t10.trans f5⟩;simp only [Nat.reduceLT,Int.reduceNeg,xq_,JK,rD,aF (bC d),aF (aP p),p6,p5,u2,u3,u4,u5,c1,c2,u6,d1,ef,x1,zae,l2,o1,l2',q1,g0,u8,u9,u10,c3,f1,f2,f3]
   ·have hm:kY d ca p=(ca,{ d2 with head:=e.back,next:=e.fwd,step:=4 }):=by
     simp only [kY,hfd,d2];rw [if_neg h1,if_neg h2]
    rw [hm];rw [decide_eq_false h2] at q1;obtain⟨K8,u8,M8,w8⟩:=MH.st hbH y0 (i:=5) (v:=I e.back) (by simp [bJ.av]) dJ;have t8:=tH.trans w8;obtain⟨K9,u9,M9,w9⟩:=M8.st (by rw [t8.base];exact hb) (r:=H.next) ak (i:=7) (v:=I e.fwd) (by simp [bJ.av]) dJ;have t9:=t8.trans w9;obtain⟨K10,u10,M10,w10⟩:=M9.st (by rw [t9.base];exact hb) (r:=H.next) ak (i:=3) (v:=I 4) (by simp [bJ.av]) dJ;have t10:=t9.trans w10;have c3:∀{β:Type} (k:Option β),ck (bQ (.ref K6.next 0 0)) KH K8 k=k:=λk=> vN (oK u8 (by omega));obtain⟨H',f1,f2,f3,f4,f5⟩:=fin { d2 with head:=e.back,next:=e.fwd,step:=4 } M10 (by rw [t10.base];exact hb) (by rw [ak];rfl) (by rw [aB (by omega),aB (by omega),aB (by omega)];exact y2);refine⟨H',?_,by rw [fF h];exact f4,t10.trans f5⟩;simp only [Nat.reduceLT,Int.reduceNeg,xq_,JK,rD,aF (bC d),aF (aP p),p6,p5,u2,u3,u4,u5,c1,c2,u6,d1,ef,x1,zae,l2,o1,l2',q1,g0,g1,u8,u9,u10,c3,f1,f2,f3]
end
section
variable {b:Nat}{H:ah}{g:bD}{q:Nat}{ca:Cache}
theorem aiA(G:Good b H g)(hb:H.base<=b)(h:g q=some (dn ca))(C:COk ca)(d:bJ)(p:Pkt)(nd:Int):
  ∃H',cl 186 [.agg d.av,I nd,.ref q 0 0,.agg p.av] H=some (uf (eu d ca p),H')/\Good b H' (upd g q (dn (eu d ca p).1))/\Step b H H':=by
 refine kD rfl rfl (al3 _ _ _ _ _ _) ?_;obtain⟨ls,L,k0,k1,k2,s⟩:=uY G d p;have d0:=L.ld k0 (i:=0) (v:=I d.aO) rfl;have d3:=L.ld k0 (i:=3) (v:=I d.step) rfl;have dA:=L.lda k0 (i:=0) (n:=9) (ys:=d.av) rfl rfl (by decide);have pA:=L.lda k1 (i:=0) (n:=9) (ys:=p.av) rfl rfl (by decide);have hf:=λH=> Tz H d p;have ez:bd 73 []=some (.agg zD9):=by simp only [xq_,Wx,jX,dX]
 have hbK:(((H.new (.blk 0 73 d.av)).new (.blk 0 81 p.av)).new (.blk 0 73 zD9)).base<=b:=by rw [s.base];exact hb
 obtain⟨Kz,z1,z2,z3,z4⟩:=L.whole hbK k2 (n:=9) (vs:=zD9) rfl rfl (by decide) rfl;have zu:Good b Kz (upd g q (dn ca)):=by rw [fF h];exact z3.out
 have outs:∀head,∃K1 K2,cl 221 [.agg d.av,.ref q 0 0,I head] (((H.new (.blk 0 73 d.av)).new (.blk 0 81 p.av)).new (.blk 0 73 zD9))=some (.agg (gB d ca head).2.1.av,K1)/\
   st 9 (.ref (H.next+1+1) 0 0) (.agg (gB d ca head).2.1.av) K1=some (aY,K2)/\lda 9 (.ref (H.next+1+1) 0 0) K2=some (.agg (gB d ca head).2.1.av,K2)/\Good b K2 (upd g q (dn (gB d ca head).1))/\Step b H K2:=λhead=> by
  obtain⟨K1,a1,a2,a3⟩:=anB L.good hbK (L.obj h) C d head;have M:=L.call h a2;obtain⟨K2,u1,u2,u3,u4⟩:=M.whole (by rw [a3.base];exact hbK) k2 (n:=9) (vs:=(gB d ca head).2.1.av) rfl rfl (by decide) (bC _);exact⟨K1,K2,a1,u1,u2,u3.out,(s.trans a3).trans u4⟩
 have steps:∀k:Int,∃K1 K2,st 1 (.ref H.next 0 3) (I k) (((H.new (.blk 0 73 d.av)).new (.blk 0 81 p.av)).new (.blk 0 73 zD9))=some (aY,K1)/\lda 9 (.ref H.next 0 0) K1=some (.agg ({ d with step:=k }:bJ).av,K1)/\
   st 9 (.ref (H.next+1+1) 0 0) (.agg ({ d with step:=k }:bJ).av) K1=some (aY,K2)/\lda 9 (.ref (H.next+1+1) 0 0) K2=some (.agg ({ d with step:=k }:bJ).av,K2)/\Good b K2 (upd g q (dn ca))/\Step b H K2:=λk=> by
  obtain⟨K1,a1,M,a3⟩:=L.st hbK k0 (i:=3) (v:=I k) (by simp [bJ.av]) dJ;have k2':iD ls H.next (d.av.set 3 (I k)) (H.next+1+1)=some zD9:=by rw [aB (by omega)];exact k2
  have dB:=M.lda ak (i:=0) (n:=9) (ys:=({ d with step:=k }:bJ).av) rfl rfl (by decide);obtain⟨K2,u1,u2,u3,u4⟩:=M.whole (by rw [a3.base];exact hbK) k2' (n:=9) (vs:=({ d with step:=k }:bJ).av) rfl rfl (by decide) (bC _);exact⟨K1,K2,a1,dB,u1,u2,by rw [fF h];exact u3.out,(s.trans a3).trans u4⟩
 have d7:=L.ld k0 (i:=7) (v:=I d.next) rfl;have d5:=L.ld k0 (i:=5) (v:=I d.head) rfl;have d8:=L.ld k0 (i:=8) (v:=I d.told) rfl;by_cases h1:d.aO≠3∨d.fits p=false
 ·have hm:eu d ca p=(ca,.zero,false):=by simp only [eu];rw [if_pos h1];rfl
  rw [hm];refine⟨Kz,?_,zu,s.trans z4⟩;by_cases hk:d.aO=3
  ·have hff:d.fits p=false:=h1.resolve_left (λh=> h hk);rw [hk] at d0;simp only [Nat.reduceLT,Int.reduceNeg,xq_,yB,aF (bC d),aF (aP p),d0,dA,pA,hf,hff,zae,zal,ez,z1,z2,uf,lC]
  ·simp only [Nat.reduceLT,Int.reduceNeg,xq_,yB,aF (bC d),aF (aP p),d0,hk,zal,ez,z1,z2,uf,lC]
 ·have hk:d.aO=3:=Classical.byContradiction λh=> h1 (.inl h);have hff:d.fits p=true:=by cases hx:d.fits p <;> simp_all
  rw [hk] at d0;by_cases s1:d.step=1
  ·have hm:eu d ca p=((kY d ca p).1,(kY d ca p).2,true):=by
    simp only [eu,kY];rw [if_neg h1,if_pos s1];cases ca.find d.aj with
    | none=> rfl
    | some e=>
     simp only;split
     ·rfl
     ·split <;> rfl
   rw [hm];rw [s1] at d3;obtain⟨K1,a1,a2,a3⟩:=Xj L.good hbK (L.obj h) C d p;have M:=L.call h a2;obtain⟨K2,u1,u2,u3,u4⟩:=M.whole (by rw [a3.base];exact hbK) k2 (n:=9) (vs:=(kY d ca p).2.av) rfl rfl (by decide) (bC _);refine⟨K2,?_,u3.out,(s.trans a3).trans u4⟩;simp only [Nat.reduceLT,Int.reduceEq,Int.reduceNeg,xq_,yB,aF (bC d),aF (aP p),d0,dA,pA,hf,hff,zae,d3,a1,u1,u2,uf]
  ·by_cases s4:d.step=4
   ·rw [s4] at d3;by_cases hn:d.next=-1
    ·have hm:eu d ca p=gB d ca d.told:=by simp only [eu];rw [if_neg h1,if_neg s1,if_pos s4,if_pos hn]
     rw [hm];obtain⟨K1,K2,a1,u1,u2,u3,u4⟩:=outs d.told;refine⟨K2,?_,u3,u4⟩;have ht:(gB d ca d.told).2.2=true:=rfl;rw [hn] at d7;simp only [Nat.reduceLT,Int.reduceEq,Int.reduceNeg,xq_,yB,aF (bC d),aF (aP p),d0,dA,pA,hf,hff,zae,d3,d7,d8,a1,u1,u2,uf,ht]
    ·have hm:eu d ca p=(ca,{ d with step:=5 },true):=by simp only [eu];rw [if_neg h1,if_neg s1,if_pos s4,if_neg hn]
     rw [hm];obtain⟨K1,K2,a1,dB,u1,u2,u3,u4⟩:=steps 5;refine⟨K2,?_,u3,u4⟩;simp only [Nat.reduceLT,Int.reduceEq,Int.reduceNeg,xq_,yB,aF (bC d),aF (aP p),d0,dA,pA,hf,hff,zae,d3,d7,hn,a1,dB,u1,u2,uf]
   ·by_cases s5:d.step=5
    ·rw [s5] at d3;by_cases hn:d.head=-1
     ·have hm:eu d ca p=gB d ca d.next:=by simp only [eu];rw [if_neg h1,if_neg s1,if_neg s4,if_pos s5,if_pos hn]
      rw [hm];obtain⟨K1,K2,a1,u1,u2,u3,u4⟩:=outs d.next
      refine⟨K2,?_,u3,u4⟩;have ht:(gB d ca d.next).2.2=true:=rfl;rw [hn] at d5;simp only [Nat.reduceLT,Int.reduceEq,Int.reduceNeg,xq_,yB,aF (bC d),aF (aP p),d0,dA,pA,hf,hff,zae,d3,d5,d7,a1,u1,u2,uf,ht]
     ·have hm:eu d ca p=gB d ca d.told:=by simp only [eu];rw [if_neg h1,if_neg s1,if_neg s4,if_pos s5,if_neg hn]
      rw [hm];obtain⟨K1,K2,a1,u1,u2,u3,u4⟩:=outs d.told;refine⟨K2,?_,u3,u4⟩;have ht:(gB d ca d.told).2.2=true:=rfl;simp only [Nat.reduceLT,Int.reduceEq,Int.reduceNeg,xq_,yB,aF (bC d),aF (aP p),d0,dA,pA,hf,hff,zae,d3,d5,hn,d8,a1,u1,u2,uf,ht]
    ·by_cases s6:d.step=6
     ·have hm:eu d ca p=(ca,{ d with step:=0 },true):=by simp only [eu];rw [if_neg h1,if_neg s1,if_neg s4,if_neg s5,if_pos s6]
      rw [hm];obtain⟨K1,K2,a1,dB,u1,u2,u3,u4⟩:=steps 0;refine⟨K2,?_,u3,u4⟩;rw [s6] at d3;simp only [Nat.reduceLT,Int.reduceEq,Int.reduceNeg,xq_,yB,aF (bC d),aF (aP p),d0,dA,pA,hf,hff,zae,d3,a1,dB,u1,u2,uf]
     ·have hm:eu d ca p=(ca,.zero,false):=by simp only [eu];rw [if_neg h1,if_neg s1,if_neg s4,if_neg s5,if_neg s6];rfl
      rw [hm];refine⟨Kz,?_,zu,s.trans z4⟩;simp only [Nat.reduceLT,Int.reduceNeg,xq_,yB,aF (bC d),aF (aP p),d0,dA,pA,hf,hff,zae,d3,s1,s4,s5,s6,ez,z1,z2,uf,lC]
end
section
variable {b:Nat}{H:ah}{g:bD}{q:Nat}
theorem Qm(G:Good b H g)(hb:H.base<=b){l:List Evn}(h:g q=some (lY l))(hl:l.length < 1000000)(e:Evn):
  ∃x x' H1 H2,ld (.ref q 0 0) H=some (x,H)/\app 184 4 32 x (.sl H.next 0 0 4 1 1 true) (H.new (.blk 0 184 e.av))=some (x',H1)/\st 1 (.ref q 0 0) x' H1=some (aY,H2)/\Good b H2 (upd g q (lY (l++[e])))/\Step b H H2:=by
 obtain⟨x,hx,c⟩:=G.seq h (i:=0) rfl;obtain⟨x',H1,H2,a1,a2,a3,a4⟩:=(G.new (.blk 0 184 e.av)).append (e:=184) (by_:=32) (n:=l.length) (by rw [jy];exact hb) h (i:=0) rfl (by decide) (dR BD l) (c.new _) (ku (ex:=true) (n:=1) (m:=4) (l:=e.av) rfl) (Gf e) (by unfold most;omega) (by unfold most;omega);refine⟨x,x',H1,H2,hx,a1,a2,?_,(Step.new _ G.1).trans a4⟩;have:lY (l++[e])=(lY l).set 0 (.seq 4 (l.flatMap Evn.av++e.av)):=by simp [lY]
 rw [this];exact a3
theorem Xk(G:Good b H g)(hb:H.base<=b){l:List Evn}(h:g q=some (lY l))(hl:l.length < 1000000)(bG idx:Int):
  ∃H',cl 147 [.ref q 0 0,I bG,I idx] H=some (.tup [],H')/\Good b H' (upd g q (lY (l++[⟨bG,idx,false,0⟩])))/\Step b H H':=by
 obtain⟨x,x',H1,H2,a0,a1,a2,a3,a4⟩:=Qm G hb h hl ⟨bG,idx,false,0⟩;refine⟨H2,bg rfl rfl (alH _ _ _ _ _ ?_),a3,a4⟩;have ed:bd 184 [(0,I bG),(1,I idx)]=some (.agg (Evn.mk bG idx false 0).av):=by
  simp only [xq_,aez,jX,gI,YH,Evn.av];rfl
 simp only [xq_,afB,a0,ed,aek,zbo,Nat.reduceLeDiff,jS (m:=4) (z:=[zI,zI,zB,zI]) (v:=.agg (Evn.mk bG idx false 0).av) rfl rfl (Gf _),fJ,a1,a2]
theorem adD(G:Good b H g)(hb:H.base<=b){l:List Evn}(h:g q=some (lY l))(hl:l.length < 1000000)(bG idx v:Int):
  ∃H',cl 188 [.ref q 0 0,I bG,I idx,I v] H=some (.tup [],H')/\Good b H' (upd g q (lY (l++[⟨bG,idx,true,v⟩])))/\Step b H H':=by
 obtain⟨x,x',H1,H2,a0,a1,a2,a3,a4⟩:=Qm G hb h hl ⟨bG,idx,true,v⟩;refine⟨H2,bg rfl rfl (al4 _ _ _ _ _ _ ?_),a3,a4⟩;have ed:bd 184 [(0,I bG),(1,I idx),(2,B true),(3,I v)]=some (.agg (Evn.mk bG idx true v).av):=by
  simp only [xq_,aez,jX,gI,YH,Evn.av];rfl
 simp only [xq_,afX,a0,ed,aek,zbo,Nat.reduceLeDiff,jS (m:=4) (z:=[zI,zI,zB,zI]) (v:=.agg (Evn.mk bG idx true v).av) rfl rfl (Gf _),fJ,a1,a2]
end
section
variable {b:Nat}{H:ah}{g:bD}{q:Nat}
theorem aaZ(G:Good b H g)(hb:H.base<=b){p:Proc}(h:g q=some (pU p))(h1:p.ops.length < 1000)(h2:p.bH.length < 1000)(hv:p.bH.length<=p.ops.length):
  ∃v H',cl 146 [.ref q 0 0] H=some (v,H')/\Good b H' (upd g q (pU p.zL))/\Step b H H':=by
 have l2:=G.load h (i:=2) (x:=B p.eF) rfl;have el:=MG G h h1 h2;cases hbg:p.eF with
 | true=>
  have hm:p.zL=p:=by simp [Proc.zL,hbg]
  rw [hm];rw [hbg] at l2;refine⟨I 6,H,bg rfl rfl (ZF _ _ _ ?_),by rw [fF h];exact G,Step.refl _ _⟩;simp only [xq_,U1,l2]
 | false=>
  rw [hbg] at l2;by_cases hl:p.left=0
  ·have hc:p.cur=none:=by
    unfold Proc.cur;unfold Proc.left at hl;exact zaK (by omega)
   have hm:p.zL=p:=by simp [Proc.zL,hc]
   rw [hm];rw [hl] at el;refine⟨I 6,H,bg rfl rfl (ZF _ _ _ ?_),by rw [fF h];exact G,Step.refl _ _⟩;simp only [xq_,U1,l2,el]
  ·have hc:p.cur≠none:=by
    unfold Proc.cur;unfold Proc.left at hl;intro hn;have:=List.getElem?_eq_none_iff.1 hn;omega
   have hm:p.zL={ p with eF:=true }:=by
    unfold Proc.zL;rw [if_neg (by rw [hbg];exact λh=> h.elim (λh=> (by cases h)) hc)]
   obtain⟨H',s1,s2,s3,s4⟩:=G.store hb h (i:=2) (v:=B true) (by simp [pU]) Ef;rw [hm];refine⟨I 0,H',bg rfl rfl (ZF _ _ _ ?_),s2,s3⟩;simp only [xq_,U1,l2,el,hl,s1]
theorem aiB(G:Good b H g)(hb:H.base<=b){p:Proc}(h:g q=some (pU p))(h2:p.bH.length < 1000)(v:Int):
  ∃r H',cl 187 [.ref q 0 0,I v] H=some (r,H')/\Good b H' (upd g q (pU (p.BL v)))/\Step b H H':=by
 have l2:=G.load h (i:=2) (x:=B p.eF) rfl;cases hbg:p.eF with
 | false=>
  have hm:p.BL v=p:=by simp [Proc.BL,hbg]
  rw [hm];rw [hbg] at l2;refine⟨I 6,H,bg rfl rfl (afW _ _ _ _ ?_),by rw [fF h];exact G,Step.refl _ _⟩;simp only [xq_,ZO,l2,zal]
 | true=>
  have hm:p.BL v=⟨p.ops,p.bH++[v],false⟩:=by simp [Proc.BL,hbg]
  rw [hm];rw [hbg] at l2;obtain⟨x,hx,c⟩:=G.seq h (i:=1) rfl;obtain⟨x',H1,H2,a1,a2,a3,a4⟩:=(G.new (.blk 0 3 [I v])).append (e:=3) (by_:=8) (n:=p.bH.length) (by rw [jy];exact hb) h (i:=1) rfl (by decide) (by simp) (c.new _) (ku (ex:=true) (n:=1) (m:=1) (l:=[I v]) rfl) rfl (by unfold most;omega) (by unfold most;omega);have h3:upd g q ((pU p).set 1 (.seq 1 (p.bH.map I++[I v]))) q=some ((pU p).set 1 (.seq 1 (p.bH.map I++[I v]))):=aU;obtain⟨H3,s1,s2,s3,s4⟩:=a3.store (by rw [a4.base,jy];exact hb) h3 (i:=2) (v:=B false) (by simp [pU]) Ef;rw [rV] at s2;have eb:∀H,bs 22 1 [(0,I v)] H=some (.sl H.next 0 0 1 1 1 true,H.new (.blk 0 3 [I v])):=λH=> (IG (by decide)).trans (jS rfl rfl rfl);refine⟨I 0,H3,bg rfl rfl (afW _ _ _ _ ?_),?_,((Step.new _ G.1).trans a4).trans s3⟩
  ·simp only [xq_,ZO,l2,zae,hx,eb,a1,a2,s1]
  ·have:pU ⟨p.ops,p.bH++[v],false⟩=((pU p).set 1 (.seq 1 (p.bH.map I++[I v]))).set 2 (.av (B false)):=by simp [pU]
   rw [this];exact s2
end
section
variable {b:Nat}{H:ah}{g:bD}{q:Nat}
theorem aiC(G:Good b H g)(hb:H.base<=b){p:Proc}(h:g q=some (pU p))(h1:p.ops.length < 1000)(h2:p.bH.length < 1000)(hv:p.bH.length<=p.ops.length):
  ∃H',cl 136 [.ref q 0 0] H=some (.tup [.agg p.op.av,I p.idx,B p.cur.isSome],H')/\Good b H' g/\Step b H H':=by
 refine kD rfl rfl (als _ _ _) ?_;have L:=(Loc.of G).newL (ty:=61) (xs:=[zI,zI,zI]) (r:=H.next) rfl rfl;have s1:Step b H _:=Step.new (.blk 0 61 [zI,zI,zI]) G.1;have el:=MG L.good (L.obj h) h1 h2;have hbK:(H.new (.blk 0 61 [zI,zI,zI])).base<=b:=by rw [jy];exact hb
 have hz:Opn.zero.av=[zI,zI,zI]:=rfl;by_cases hl:p.left=0
 ·have hc:p.cur=none:=by
   unfold Proc.cur;unfold Proc.left at hl;exact zaK (by omega)
  obtain⟨K,t1,t2,t3,t4⟩:=L.whole hbK ak (n:=3) (vs:=[zI,zI,zI]) rfl rfl (by decide) rfl;have ez:bd 61 []=some (.agg [zI,zI,zI]):=by simp only [xq_,ajG,jX,dX]
  refine⟨K,?_,t3.out,s1.trans t4⟩;rw [hl] at el;have hi:p.idx=0:=by simp [Proc.idx,hc]
  have ho:p.op.av=[zI,zI,zI]:=by simp only [Proc.op,hc,za1];exact hz
  simp only [xq_,Zz,el,ez,t1,t2,hi,ho,hc,zaG]
 ·have hlt:p.bH.length < p.ops.length:=by unfold Proc.left at hl;omega
  obtain⟨o,ho⟩:∃o,p.ops[p.bH.length]?=some o:=⟨_,zab hlt⟩
  have hc:p.cur=some o:=ho;have l0:=L.good.load (L.obj h) (i:=0) (x:=vsl 3 Opn.av p.ops) rfl;obtain⟨x,hx,c⟩:=L.good.seq (L.obj h) (i:=1) rfl;have e2:=(c.is (n:=p.bH.length) (by decide) (by simp)).lnS;have hs:=Jt gK (H.new (.blk 0 61 [zI,zI,zI])) p.ops;have e3:=hs.ix (k:=.i64) (i:=(p.bH.length:Int)) (by omega) (by omega);rw [zat] at e3;have e4:=oH gK hs ho;obtain⟨K,t1,t2,t3,t4⟩:=L.whole hbK ak (n:=3) (vs:=o.av) rfl (gK _) (by decide) (rX _);have c1:∀{β:Type} (k:Option β),ck (bQ (.ref q 0 1)) (H.new (.blk 0 61 [zI,zI,zI])) K k=k:=λk=> vN (oK t1 (by have:=G.lt h;omega));have c2:∀{β:Type} (k:Option β),ck (bQ x) (H.new (.blk 0 61 [zI,zI,zI])) K k=k:=λk=> adk λr hr=> by
   refine oK t1 ?_;obtain⟨c0,hx0,cx⟩:=G.seq h (i:=1) rfl;have hxx:x=c0:=by
    have:=(cx.new (.blk 0 61 [zI,zI,zI])).load;rw [this] at hx;simp only [zaa,zad] at hx;exact hx.1.symm
   subst hxx;rcases cx.length (n:=p.bH.length) (by decide) (by simp) with⟨rfl,_⟩ | ⟨r',gg,off,cap,ex,ty,all,rfl,q1,q2,q3,_⟩
   ·cases hr
   ·simp only [bQ,zaa] at hr;omega
  refine⟨K,?_,t3.out,s1.trans t4⟩;have hi:p.idx=p.bH.length:=by simp [Proc.idx,hc]
  have hop:p.op=o:=by simp [Proc.op,hc]
  simp only [xq_,Zz,el,hl,l0,hx,e2,e3,e4,t1,t2,c1,c2,hi,hop,hc,zaI]
end
theorem anC {β:Type}{s s0:Nat}{H H':ah}{k:Option β}(h:∀r,s<=r->r < s0->H'.get r=H.get r):ckR s s0 H H' k=k:=if_pos h
theorem J6(r gg o:Nat)(v:AV){H H':ah}(h:st 1 (.ref r gg (o+1)) v H=some (aY,H')):cl 230 [.ref r gg o,v] H=some (.tup [],H'):=by
 refine bg rfl rfl (amO _ _ _ _ ?_);simp only [xq_,agm,h]
theorem aa0(r gg o:Nat)(v:AV){H H':ah}(h:st 1 (.ref r gg o) v H=some (aY,H')):cl 231 [.ref r gg o,v] H=some (.tup [],H'):=by
 refine bg rfl rfl (amP _ _ _ _ ?_);simp only [xq_,agn,h]
section
variable {b:Nat}{H:ah}{g:bD}{q:Nat}{ca:Cache}
theorem MW {K:ah}{ls:Lcl}(L:Loc b K g ls)(hb:K.base<=b)(h:g q=some (dn ca))(C:COk ca)(e:Ent)(he:e.data.length < 1000000000)(out:Pkt){r4 r6 r8:Nat}(k4:ls r4=some zP9)(k6:ls r6=some e.av)(k8:ls r8=some out.av):
  ∃H',xH cl (.ref q 0 0) (.ref r4 0 0) (.ref r6 0 0) (.ref r8 0 0) K=some (.tup [.agg out.av,I (ca.put e).2],H')/\Good b H' (upd g q (dn (ca.put e).1))/\Step b K H':=by
 have l8:=L.lda k8 (i:=0) (n:=9) (ys:=out.av) rfl rfl (by decide);have l6:=L.lda k6 (i:=0) (n:=6) (ys:=e.av) rfl rfl (by decide);obtain⟨K1,a1,a2,a3⟩:=AB L.good hb (L.obj h) C e he;have M:=L.call h a2;have ck1:∀{β:Type} (k:Option β),ck (bQ (.ref r8 0 0)) K K1 k=k:=λk=> vN (VH L.good M.good (VE _ _ _ _ _ a1) (pK k8) (pK k8));obtain⟨K2,u1,u2,u3,u4⟩:=M.whole (by rw [a3.base];exact hb) k4 (n:=9) (vs:=out.av) rfl rfl (by decide) (aP _);refine⟨K2,?_,u3.out,a3.trans u4⟩;simp only [xq_,xH,l8,l6,a1,u1,u2,ck1]
end
section
variable {b:Nat}{H:ah}{g:bD}{q:Nat}{ca:Cache}
def XV(r:Cache × Pkt × Int):AV:=.tup [.agg r.2.1.av,I r.2.2]
theorem Qn(G:Good b H g)(hb:H.base<=b)(h:g q=some (dn ca))(C:COk ca)(p:Pkt)(hx:(!p.ok || decide (p.aO < 3) || decide (6 < p.aO))=true∨ca.find p.aj=none):
  ∃H',cl 199 [.ref q 0 0,.agg p.av] H=some (XV (fG ca p),H')/\Good b H' (upd g q (dn (fG ca p).1))/\Step b H H':=by
 refine kD rfl rfl (af5 _ _ _ _) ?_;have L1:=(Loc.of G).newL (ty:=81) (xs:=p.av) (r:=H.next) (aP p) rfl;have L2:=L1.newL (ty:=81) (xs:=zP9) (r:=H.next+1) rfl (by rw [fA]);have s2:Step b H _:=(Step.new (.blk 0 81 p.av) G.1).trans (Step.new (.blk 0 81 zP9) L1.good.1);have k0:iD (iD noL H.next p.av) (H.next+1) zP9 H.next=some p.av:=by rw [aB (by omega),ak]
 have p0:=L2.ld k0 (i:=0) (v:=I p.aO) rfl;have p4:=L2.ld k0 (i:=4) (v:=I p.aj) rfl;have pA:=L2.lda k0 (i:=0) (n:=9) (ys:=p.av) rfl rfl (by decide);have ck:=λH=> Ar H p;have ez:bd 81 []=some (.agg zP9):=by simp only [xq_,yO,jX,dX]
 have hbK:((H.new (.blk 0 81 p.av)).new (.blk 0 81 zP9)).base<=b:=by rw [s2.base];exact hb
 by_cases h1:(!p.ok || decide (p.aO < 3) || decide (6 < p.aO))=true
 ·have hm:fG ca p=(ca,.zero,1):=by simp only [fG];rw [if_pos h1]
  rw [hm];obtain⟨K,z1,z2,z3,z4⟩:=L2.whole hbK ak (n:=9) (vs:=zP9) rfl rfl (by decide) rfl;refine⟨K,?_,by rw [fF h];exact z3.out,s2.trans z4⟩;cases hok:p.ok with
  | false=>
   rw [hok] at ck;simp only [Nat.reduceLT,Int.reduceEq,xq_,Ac,aF (aP p),pA,ck,zal,ez,z1,z2,XV,fE]
  | true=>
   rw [hok] at ck h1;by_cases h3:p.aO < 3
   ·simp only [Nat.reduceLT,xq_,Ac,aF (aP p),pA,ck,zae,p0,h3,ez,z1,z2,XV,fE]
   ·have h6:6 < p.aO:=by simpa [h3] using h1
    simp only [Nat.reduceLT,xq_,Ac,aF (aP p),pA,ck,zae,p0,h3,h6,ez,z1,z2,XV,fE]
 ·have hfn:ca.find p.aj=none:=hx.resolve_left h1;have hm:fG ca p=(ca,.zero,3):=by simp only [fG,hfn];rw [if_neg h1];rfl
  rw [hm];have hok:p.ok=true/\¬p.aO < 3/\¬6 < p.aO:=by
   cases ho:p.ok <;> simp_all
  have ef:=qF L2.good (L2.obj h) C.len C.dat p.aj;rw [hfn] at ef;simp only [oP,za1,zaG,uT] at ef;have LE:=L2.newL (ty:=100) (xs:=zE6) (r:=H.next+1+1) rfl (by rw [fA,fA]);have sE:Step b H _:=s2.trans (Step.new (.blk 0 100 zE6) L2.good.1);obtain⟨KE,x1,x2,ME,x4⟩:=LE.whole (by rw [sE.base];exact hb) ak (n:=6) (vs:=zE6) rfl rfl (by decide) rfl;have tE:=sE.trans x4;obtain⟨K,z1,z2,z3,z4⟩:=ME.whole (by rw [tE.base];exact hb) (r:=H.next+1) (xs:=zP9) (by rw [aB (by omega),aB (by omega),ak]) (n:=9) (vs:=zP9) rfl rfl (by decide) rfl;refine⟨K,?_,by rw [fF h];exact z3.out,tE.trans z4⟩;rw [hok.1] at ck;simp only [Nat.reduceLT,xq_,Ac,aF (aP p),pA,ck,zae,zal,p0,hok.2.1,hok.2.2,p4,ef,x1,ez,z1,z2,XV,fE]
end
section
variable {b:Nat}{H:ah}{g:bD}{q:Nat}{ca:Cache}
theorem adE(G:Good b H g)(hb:H.base<=b)(h:g q=some (dn ca))(C:COk ca)(p:Pkt)(hx:¬(!p.ok || decide (p.aO < 3) || decide (6 < p.aO))=true){e:Ent}(hfd:ca.find p.aj=some e):
  ∃H',cl 199 [.ref q 0 0,.agg p.av] H=some (XV (fG ca p),H')/\Good b H' (upd g q (dn (fG ca p).1))/\Step b H H':=by
 have hok:p.ok=true/\¬p.aO < 3/\¬6 < p.aO:=by
  cases ho:p.ok <;> simp_all
 have he:e.data.length < 1000000000:=C.dat e (za7 hfd);refine kD rfl rfl (af5 _ _ _ _) ?_;have L1:=(Loc.of G).newL (ty:=81) (xs:=p.av) (r:=H.next) (aP p) rfl;have L2:=L1.newL (ty:=81) (xs:=zP9) (r:=H.next+1) rfl (by rw [fA]);have s2:Step b H _:=(Step.new (.blk 0 81 p.av) G.1).trans (Step.new (.blk 0 81 zP9) L1.good.1);have k0:iD (iD noL H.next p.av) (H.next+1) zP9 H.next=some p.av:=by rw [aB (by omega),ak]
 have p0:=L2.ld k0 (i:=0) (v:=I p.aO) rfl;have p4:=L2.ld k0 (i:=4) (v:=I p.aj) rfl;have pA:=L2.lda k0 (i:=0) (n:=9) (ys:=p.av) rfl rfl (by decide);have ck:=λH=> Ar H p;have ef:=qF L2.good (L2.obj h) C.len C.dat p.aj;rw [hfd] at ef;simp only [oP,zar,zaI] at ef;have LE:=L2.newL (ty:=100) (xs:=zE6) (r:=H.next+1+1) rfl (by rw [fA,fA]);have sE:Step b H _:=s2.trans (Step.new (.blk 0 100 zE6) L2.good.1);obtain⟨KE,x1,x2,ME,x4⟩:=LE.whole (by rw [sE.base];exact hb) ak (n:=6) (vs:=e.av) rfl rfl (by decide) (kV e);have tE:=sE.trans x4;have nE:H.next+1+1 < KE.next:=ME.good.lt (pK (g:=g) ak)
 have LO:=ME.newL (ty:=81) (xs:=zP9) (r:=KE.next) rfl rfl;have tO:=tE.trans (Step.new (.blk 0 81 zP9) ME.good.1);let out:Pkt:=⟨BI p.aO,p.dst,p.src,p.id,p.aj,0,0,false,[]⟩
 have y0:∀{xs:List AV} {l:Lcl},True:=λ{_ _}=> trivial;obtain⟨K0,o1,o2,M0,o4⟩:=LO.whole (by rw [jy,tE.base];exact hb) (r:=KE.next) ak (n:=9) (vs:=out.av) rfl (bT _) (by decide) (aP _);have t0:=tO.trans o4;have hbK:K0.base<=b:=by rw [t0.base];exact hb
 have ebd:bd 81 [(0,I (BI p.aO)),(1,I p.dst),(2,I p.src),(3,I p.id),(4,I p.aj)]=some (.agg out.av):=by
  simp only [xq_,yO,jX,gI,RH,out,Pkt.av,DK];rfl
 have ea:=λH=> Qg H p.aO;have m0:∀{l:Lcl},iD (iD (iD (iD (iD (iD noL H.next p.av) (H.next+1) zP9) (H.next+1+1) zE6) (H.next+1+1) e.av) KE.next zP9) KE.next out.av H.next=some p.av:=λ{_}=> by
  rw [aB (by omega),aB (by omega),aB (by omega),aB (by omega),aB (by omega),ak]
 have kE0:iD (iD (iD (iD (iD noL H.next p.av) (H.next+1) zP9) (H.next+1+1) zE6) (H.next+1+1) e.av) KE.next zP9 H.next=some p.av:=by
  rw [aB (by omega),aB (by omega),aB (by omega),aB (by omega),ak]
 have r0:=LO.ld kE0 (i:=0) (v:=I p.aO) rfl;have r1:=LO.ld kE0 (i:=1) (v:=I p.src) rfl;have r2:=LO.ld kE0 (i:=2) (v:=I p.dst) rfl;have r3:=LO.ld kE0 (i:=3) (v:=I p.id) rfl;have r4:=LO.ld kE0 (i:=4) (v:=I p.aj) rfl;have q0:=M0.ld (m0 (l:=noL)) (i:=0) (v:=I p.aO) rfl;have q5:=M0.ld (m0 (l:=noL)) (i:=5) (v:=I p.ptr) rfl;rw [hok.1] at ck;by_cases h4:p.aO=4
 ·have hm:fG ca p=((ca.put { e with fwd:=p.ptr }).1,out,(ca.put { e with fwd:=p.ptr }).2):=by
   simp only [fG,hfd];rw [if_neg hx,if_neg (by omega),if_pos h4]
  rw [hm];obtain⟨K1,u1,M1,w1⟩:=M0.st hbK (r:=H.next+1+1) (xs:=e.av) (by rw [aB (by omega),aB (by omega),ak]) (i:=0) (v:=I p.ptr) (by simp [Ent.av]) dJ;have t1:=t0.trans w1;obtain⟨H',f1,f2,f3⟩:=MW M1 (by rw [t1.base];exact hb) h C { e with fwd:=p.ptr } he out (r4:=H.next+1) (r6:=H.next+1+1) (r8:=KE.next) (by rw [aB (by omega),aB (by omega),aB (by omega),aB (by omega),aB (by omega),ak]) (by rw [ak];rfl) (by rw [aB (by omega),ak]);refine⟨H',?_,f2,t1.trans f3⟩;have sf:=aa0 _ _ _ _ u1;rw [h4] at q0;simp only [Nat.reduceLT,Int.reduceEq,xq_,Ac,aF (aP p),pA,ck,zae,p0,hok.2.1,hok.2.2,p4,ef,x1,r0,ea,r1,r2,r3,r4,ebd,o1,q0,q5,sf,f1,XV]
 ·by_cases h5:p.aO=5
  ·have hm:fG ca p=((ca.put { e with back:=p.ptr }).1,out,(ca.put { e with back:=p.ptr }).2):=by
    simp only [fG,hfd];rw [if_neg hx,if_neg (by omega),if_neg h4,if_pos h5]
   rw [hm];obtain⟨K1,u1,M1,w1⟩:=M0.st hbK (r:=H.next+1+1) (xs:=e.av) (by rw [aB (by omega),aB (by omega),ak]) (i:=1) (v:=I p.ptr) (by simp [Ent.av]) dJ;have t1:=t0.trans w1;obtain⟨H',f1,f2,f3⟩:=MW M1 (by rw [t1.base];exact hb) h C { e with back:=p.ptr } he out (r4:=H.next+1) (r6:=H.next+1+1) (r8:=KE.next) (by rw [aB (by omega),aB (by omega),aB (by omega),aB (by omega),aB (by omega),ak]) (by rw [ak];rfl) (by rw [aB (by omega),ak]);refine⟨H',?_,f2,t1.trans f3⟩;have sf:=J6 _ _ 0 _ u1;rw [h5] at q0;simp only [Nat.reduceLT,Int.reduceEq,xq_,Ac,aF (aP p),pA,ck,zae,p0,hok.2.1,hok.2.2,p4,ef,x1,r0,ea,r1,r2,r3,r4,ebd,o1,q0,q5,sf,f1,XV]
  ·have zE:iD (iD (iD (iD (iD (iD noL H.next p.av) (H.next+1) zP9) (H.next+1+1) zE6) (H.next+1+1) e.av) KE.next zP9) KE.next out.av (H.next+1+1)=some e.av:=by rw [aB (by omega),aB (by omega),ak]
   have g5:=M0.ld zE (i:=5) (v:=dat e.data) rfl;have g4:=M0.ld zE (i:=4) (v:=B e.bZ) rfl;have g0:=M0.ld zE (i:=0) (v:=I e.fwd) rfl;obtain⟨K1,u1,M1,w1⟩:=M0.st hbK (r:=KE.next) ak (i:=8) (v:=dat e.data) (by simp [Pkt.av]) rW;have t1:=t0.trans w1;obtain⟨K2,u2,M2,w2⟩:=M1.st (by rw [t1.base];exact hb) (r:=KE.next) ak (i:=7) (v:=B e.bZ) (by simp [Pkt.av]) Ef;have t2:=t1.trans w2;have c1:∀{β:Type} (o:Nat) (k:Option β),Proofs.YtgplhpgkompkmaaGreat.ck (bQ (.ref (H.next+1+1) 0 o)) K0 K1 k=k:=λo k=> vN (oK u1 (by omega));have c2:∀{β:Type} (o:Nat) (k:Option β),Proofs.YtgplhpgkompkmaaGreat.ck (bQ (.ref (H.next+1+1) 0 o)) K1 K2 k=k:=λo k=> vN (oK u2 (by omega));by_cases h3:p.aO=3
   ·have hm:fG ca p=((ca.put { e with bZ:=false,back:=p.ptr }).1,{ out with data:=e.data,flag:=e.bZ },(ca.put { e with bZ:=false,back:=p.ptr }).2):=by
     simp only [fG,hfd];rw [if_neg hx,if_pos h3]
    rw [hm];obtain⟨K3,u3,M3,w3⟩:=M2.st (by rw [t2.base];exact hb) (r:=H.next+1+1) (xs:=e.av) (by rw [aB (by omega),aB (by omega)];exact zE) (i:=4) (v:=B false) (by simp [Ent.av]) Ef;have t3:=t2.trans w3;have q5':=M3.ld (r:=H.next) (xs:=p.av) (i:=5) (v:=I p.ptr) (by rw [aB (by omega),aB (by omega),aB (by omega)];exact m0 (l:=noL)) rfl;obtain⟨K4,u4,M4,w4⟩:=M3.st (by rw [t3.base];exact hb) (r:=H.next+1+1) ak (i:=1) (v:=I p.ptr) (by simp [Ent.av]) dJ;have t4:=t3.trans w4;obtain⟨H',f1,f2,f3⟩:=MW M4 (by rw [t4.base];exact hb) h C { e with bZ:=false,back:=p.ptr } he { out with data:=e.data,flag:=e.bZ } (r4:=H.next+1) (r6:=H.next+1+1) (r8:=KE.next) (by rw [aB (by omega),aB (by omega),aB (by omega),aB (by omega),aB (by omega),aB (by omega),aB (by omega),aB (by omega),ak]) (by rw [ak];rfl) (by rw [aB (by omega),aB (by omega),ak];rfl);refine⟨H',?_,f2,t4.trans f3⟩;have sf:=J6 _ _ 0 _ u4;rw [h3] at q0;simp only [Nat.reduceLT,Int.reduceEq,xq_,Ac,aF (aP p),pA,ck,zae,p0,hok.2.1,hok.2.2,p4,ef,x1,r0,ea,r1,r2,r3,r4,ebd,o1,q0,g5,g4,u1,u2,c1,u3,q5',sf,f1,XV]
   ·have h6:p.aO=6:=by omega
    have hm:fG ca p=(ca.drop p.aj,{ out with data:=e.data,flag:=e.bZ,ptr:=e.fwd },0):=by
     simp only [fG,hfd];rw [if_neg hx,if_neg h3,if_neg h4,if_neg h5]
    rw [hm];obtain⟨K3,u3,M3,w3⟩:=M2.st (by rw [t2.base];exact hb) (r:=KE.next) ak (i:=5) (v:=I e.fwd) (by simp [Pkt.av]) dJ;have t3:=t2.trans w3;have q4:=M3.ld (r:=H.next) (xs:=p.av) (i:=4) (v:=I p.aj) (by rw [aB (by omega),aB (by omega),aB (by omega)];exact m0 (l:=noL)) rfl;obtain⟨K4,a1,a2,a3⟩:=Ho M3.good (by rw [t3.base];exact hb) (M3.obj h) C.len C.dat p.aj;have M4:=M3.call h a2;have t4:=t3.trans a3;have lo:=M4.lda (r:=KE.next) ak (i:=0) (n:=9) (ys:=({ out with data:=e.data,flag:=e.bZ,ptr:=e.fwd }:Pkt).av) rfl rfl (by decide);obtain⟨K5,v1,v2,v3,v4⟩:=M4.whole (by rw [t4.base];exact hb) (r:=H.next+1) (xs:=zP9) (by rw [aB (by omega),aB (by omega),aB (by omega),aB (by omega),aB (by omega),aB (by omega),aB (by omega),ak]) (n:=9) (vs:=({ out with data:=e.data,flag:=e.bZ,ptr:=e.fwd }:Pkt).av) rfl (bT _) (by decide) (aP _);refine⟨K5,?_,v3.out,t4.trans v4⟩;rw [h6] at q0;simp only [Nat.reduceLT,Int.reduceEq,xq_,Ac,aF (aP p),pA,ck,zae,p0,hok.2.1,hok.2.2,p4,ef,x1,r0,ea,r1,r2,r3,r4,ebd,o1,q0,g5,g4,g0,u1,u2,u3,c1,c2,q4,a1,lo,v1,v2,XV]
end
section
variable {b:Nat}{H:ah}{g:bD}{q d tt:Nat}{c:Cfg}{me:Int}{h:Home}
theorem Xl(G:Good b H g)(N:nI g q d tt c me h)(T:TOk h.aT):cl 140 [.ref q 0 0] H=some (B (decide (h.ready≠[])),H):=by
 refine bU rfl rfl (alz _ _ _) ?_ gq;have l1:=G.guard.load N.1 (i:=1) (x:=.ref tt 0 0) rfl;have e1:=J4 G.guard N.2.2 T;have e2:=(mQ H.guard h.ready).lnS;have hr:h.aT.ready (srt [] (h.aT.wait.map (·.1)))=h.ready:=rfl;rw [hr] at e1;by_cases hz:h.ready=[]
 ·have:¬(0:Int) < (h.ready.length:Int):=by rw [hz];decide
  simp only [xq_,ZB,l1,e1,hz,ne_eq,not_true_eq_false]
  try rfl
 ·have:(0:Int) < (h.ready.length:Int):=by
   cases hx:h.ready with
   | nil=> exact absurd hx hz
   | cons a l=> simp only [zam];omega
  simp only [xq_,ZB,l1,e1,e2,this,hz,ne_eq,not_false_eq_true]
end
section
variable {b:Nat}{H:ah}{g:bD}{q d tt:Nat}{c:Cfg}{me:Int}{h:Home}
theorem adF(G:Good b H g)(hb:H.base<=b)(N:nI g q d tt c me h)(T:TOk h.aT)(hr:∀e∈h.dH,e.2.data.length < 1000000000):
  ∃H',cl 142 [.ref q 0 0] H=some (.tup [.agg (h.grant me).2.1.av,B (h.grant me).2.2],H')/\Good b H' (kW g d tt c (h.grant me).1)/\Step b H H':=by
 refine kD rfl rfl (alB _ _ _) ?_;have L:=(Loc.of G).newL (ty:=81) (xs:=zP9) (r:=H.next) rfl rfl;have s1:Step b H _:=Step.new (.blk 0 81 zP9) G.1;have hbK:(H.new (.blk 0 81 zP9)).base<=b:=by rw [jy];exact hb
 have l1:=L.good.load (L.obj N.1) (i:=1) (x:=.ref tt 0 0) rfl;have e1:=J4 L.good (L.obj N.2.2) T;have e2:=(mQ (H.new (.blk 0 81 zP9)) h.ready).lnS;have hre:h.aT.ready (srt [] (h.aT.wait.map (·.1)))=h.ready:=rfl;rw [hre] at e1;have ez:bd 81 []=some (.agg zP9):=by simp only [xq_,yO,jX,dX]
 cases hz:h.ready with
 | nil=>
  have hm:h.grant me=(h,.zero,false):=by simp only [Home.grant,hz]
  rw [hm,EU N];obtain⟨K,z1,z2,z3,z4⟩:=L.whole hbK ak (n:=9) (vs:=zP9) rfl rfl (by decide) rfl;refine⟨K,?_,z3.out,s1.trans z4⟩;rw [hz] at e1 e2;have n0:¬((0:Int) < ((([]:List Int).length:Nat):Int)):=by decide
  simp only [xq_,ZE,l1,e1,e2];rw [U0];simp only [xq_,n0,ez,z1,z2,fE]
 | cons aj rest=>
  obtain⟨m1,m2,_⟩:=wK hz;obtain⟨w,ws,hw⟩:∃w ws,h.aT.ws aj=w::ws:=by
   cases hx:h.aT.ws aj with
   | nil=> exact absurd hx m2
   | cons a l=> exact⟨a,l,rfl⟩
  have hn:h.aT.next aj=(⟨lG h.aT.fP aj w.1,lG h.aT.wait aj ws⟩,some w):=by simp only [Turns.next,m1,hw,zah,if_false]
  have hm:h.grant me=({ h with aT:=(h.aT.next aj).1 },granted h.dH me aj w.1 w.2,true):=by simp only [Home.grant,hz,hn]
  rw [hm];obtain⟨K1,a1,a2,a3⟩:=aaD L.good hbK (L.obj N.2.2) T.nd aj (T.ws aj);have M:=L.call N.2.2 a2;have NK:=N.ais { h with aT:=(h.aT.next aj).1 };rw [yV N] at NK ⊢;have NL:nI (lay (upd g tt (iC (h.aT.next aj).1)) (iD noL H.next zP9)) q d tt c me { h with aT:=(h.aT.next aj).1 }:=⟨M.obj NK.1,M.obj NK.2.1,M.obj NK.2.2⟩
  have gr:=J3 M.good NL hr aj w.1 w.2;obtain⟨K,z1,z2,z3,z4⟩:=M.whole (by rw [a3.base];exact hbK) ak (n:=9) (vs:=(granted h.dH me aj w.1 w.2).av) rfl (bT _) (by decide) (aP _);refine⟨K,?_,z3.out,(s1.trans a3).trans z4⟩;have hs:=mQ (H.new (.blk 0 81 zP9)) h.ready;have x1:=hs.ix (k:=.i64) (i:=(0:Int)) (by omega) (by rw [hz];simp only [zam];omega);have x2:=hs.ld (i:=0) (by rw [hz];simp);rw [hz] at x1 x2 e1 e2;simp only [zaw,zaP,zak] at x2;rw [show((0:Int).toNat)=0 from rfl] at x1;have n0:(0:Int) < (((aj::rest).length:Nat):Int):=by simp only [zam];omega
  rw [hn] at a1;simp only [anb,zar,zaI] at a1;simp only [xq_,ZE,l1,e1,e2];rw [U0];simp only [xq_,n0,x1,x2,l1,a1,gr,z1,z2]
end
structure NS(c:Cfg)(me:Int)(n:Node)(r:jK):Prop where
 sim:aoa c me n r
 rok:(r.homes.aT.owner.map (·.1)).Nodup
 rge:∀o∈r.homes.aT.owner,0<=o.2
theorem NS.cs {c:Cfg}{me:Int}{n:Node}{r:jK}(S:NS c me n r):BM n.aH r.aH:=⟨S.sim.sets,S.sim.ways,S.sim.bW,S.sim.sorted,S.sim.perm⟩
theorem NS.hs {c:Cfg}{me:Int}{n:Node}{r:jK}(S:NS c me n r):JE c me n.home r.homes:=⟨S.sim.dH,S.sim.none,⟨S.sim.owner,S.sim.waits,S.rok,S.rge⟩⟩
theorem NS.of {c:Cfg}{me:Int}{n:Node}{r:jK}(C:BM n.aH r.aH)(H:JE c me n.home r.homes)(h1:r.ops=n.bP.ops)(h2:r.bH=n.bP.bH)(h3:r.eF=n.bP.eF)(h4:r.has=!decide (n.aI.step=0))(h5:r.aI=if n.aI.step=0 then .zero else n.aI)(h6:r.num=n.num):NS c me n r:=
 ⟨⟨h1,h2,h3,h4,h5,h6,C.sets,C.ways,C.bW,C.sorted,C.perm,H.dH,H.none,H.aT.owner,H.aT.waits⟩,H.aT.rok,H.aT.rge⟩
structure arb(c:Cfg)(o:Opn):Prop where
 k1:1<=o.aO
 k4:o.aO<=4
 aj:c.bM o.addr=o.addr.tdiv c.cO
 lo:0<=c.bM o.addr
 hi:c.bM o.addr < c.bn
 word:c.dh o.addr=o.addr.tmod c.cO
 wlo:0<=c.dh o.addr
 whi:c.dh o.addr < c.cO
theorem aoh {c:Cfg}(hc:c.ok=true){o:Opn}(h:c.right o=true):arb c o:=by
 obtain⟨_,hl,hw,_⟩:=qp hc;unfold Cfg.right at h;simp only [zaf,decide_eq_true_eq] at h;obtain⟨⟨⟨h1,h2⟩,h3⟩,_⟩:=h;have h4:¬(o.addr < 0∨c.tq<=o.addr):=λe=> h3 (by unfold Cfg.bM;rw [if_pos e]);simp only [not_or] at h4;have e1:c.bM o.addr=o.addr / c.cO:=by unfold Cfg.bM;rw [if_neg (by simp only [not_or];exact h4)]
 have e2:c.dh o.addr=o.addr % c.cO:=by unfold Cfg.dh;rw [if_neg (by simp only [not_or];exact h4)]
 have ha:o.addr < c.bn*c.cO:=by have:=h4.2;unfold Cfg.tq at this;omega
 refine⟨h1,h2,?_,?_,?_,?_,?_,?_⟩
 ·rw [e1,zcX (by omega)]
 ·rw [e1];exact Int.ediv_nonneg (by omega) (by omega)
 ·rw [e1];exact Int.ediv_lt_of_lt_mul (by omega) ha
 ·rw [e2,zby (by omega)]
 ·rw [e2];exact zb7 _ (by omega)
 ·rw [e2];exact zcj _ (by omega)
theorem qH(e:Ent)(o:Opn)(w:Int):(eG e o w).aj=e.aj/\(eG e o w).used=e.used/\(eG e o w).bZ=e.bZ/\(eG e o w).data.length=e.data.length:=by
 unfold eG;split
 ·unfold Ent.write;split <;> simp
 ·split
  ·unfold Ent.write;split <;> simp
  ·simp
theorem Xm {c:Cfg}{e:Ent}{o:Opn}{w:Int}(hd:oW c e.data)(ho:I64 o.value):oW c (eG e o w).data:=by
 refine⟨by rw [(qH e o w).2.2.2];exact hd.1,?_⟩;have key:∀v,I64 v->∀x∈(e.write w v).data,I64 x:=by
  intro v hv x hx;unfold Ent.write at hx;split at hx
  ·rcases zct hx with h | h
   ·exact hd.2 x h
   ·rw [h];exact hv
  ·exact hd.2 x hx
 unfold eG;split
 ·exact key _ ho
 ·split
  ·exact key _ (ae1 _)
  ·exact hd.2
structure Eff(c:Cfg)(me:Int)(n:Node)(r:jK)(t:List Evn)(A:NT)(B:RNT):Prop where
 sim:BM A.1.aH B.1.aH
 rest:B.1={ r with aH:=B.1.aH,bH:=n.bP.bH++[A.2.getLast?.elim 0 (·.value)],eF:=false }
 apN:A.1={ n with aH:=A.1.aH,bP:=⟨n.bP.ops,n.bP.bH++[A.2.getLast?.elim 0 (·.value)],false⟩ }
 ev:B.2=A.2
 inv:Ej c A.1.aH
 len:A.2.length=t.length+1
theorem MZ {ca:Cache}(hl:Lines ca.l){e:Ent}(h0:0<=e.aj)(hf:ca.full e.aj=false):∃u,(ca.put e).1.find e.aj=some { e with used:=u }:=by
 cases h:ca.find e.aj with
 | some x=>
  refine⟨x.used,?_⟩;rw [lu hl h0 h];obtain⟨hx,hxl⟩:=(ig hl).1 h;unfold Cache.find;rw [ig (zU hl λy _=> by
   split
   ·rename_i h;exact h.symm
   ·rfl)]
  exact⟨zaH.2 ⟨x,hx,by rw [if_pos hxl]⟩,rfl⟩
 | none=>
  refine⟨ca.bW+1,?_⟩;unfold Cache.put;rw [if_neg (by omega),yS.2 h];simp only [hf,zah,if_false];unfold Cache.find;rw [zdF];have:(ca.l.find? λx=> decide (x.aj=e.aj))=none:=h;rw [this];simp
theorem Ic(ca:Cache)(e:Ent):(ca.put e).1.bW<=ca.bW+1:=by
 unfold Cache.put;split
 ·simp only;omega
 ·split
  ·simp only;omega
  ·split <;> simp only <;> omega
theorem CU(ca:Cache)(aj:Int):(ca.drop aj).bW=ca.bW:=by
 unfold Cache.drop;split <;> rfl
theorem rM(me:Int)(n:Node)(p:Pkt):n.after me p=Dv n.aI me n.aH p:=rfl
theorem AO {d:bJ}{me:Int}{ca:Cache}{p:Pkt}(h:d.fits p=false):Dv d me ca p=vO ca:=by
 have h1:dU d me ca p=vO ca:=by unfold dU;rw [if_pos (.inr h)]
 have h2:dV d me ca p=vO ca:=by unfold dV;rw [if_pos (.inr h)]
 have h3:eu d ca p=vO ca:=by unfold eu;rw [if_pos (.inr h)]
 unfold Dv;rw [h1,h2,h3];split
 ·rfl
 ·split
  ·rfl
  ·split <;> rfl
theorem aa1 {d:bJ}{p:Pkt}(h:d.fits p=true):p.aO=BI (zD d.step):=by
 unfold bJ.fits at h;simp only [zaf,decide_eq_true_eq] at h;exact h.1.1.2
structure Ie(c:Cfg)(d:bJ)(ca:Cache)(d':bJ)(ca':Cache):Prop where
 inv:Ej c ca'
 aj:d'.aj=d.aj
 aO:d'.aO=d.aO
 dat:d'.data=[]∨oW c d'.data
 ahm:d'.aO=2->d'.step=3->oW c d'.data
 clk:ca'.bW<=ca.bW∨(d.aO≠3/\d'.step=6/\ca'.bW<=ca.bW+1)
 way:(d.step=6/\d'.step=0/\ca'=ca)∨(d'.step≠0/\d.step≠6/\(d.aO≠3->(d'.step≠6/\ca'=ca)∨(d'.step=6/\∃e,ca'.find d.aj=some e/\(d.aO=2->e.bZ=true))))
theorem VI {c:Cfg}{ca:Cache}(I:Ej c ca){d:bJ}{me:Int}(h0:0<=d.aj)(h1:d.aj < c.bn)(hf:ca.full d.aj=false)(hd:oW c d.data)(hk:d.aO=2)(hs:d.step≠6){d0:bJ}(e1:d0.aj=d.aj)(e2:d0.aO=d.aO)(e3:d0.step≠6):
  Ie c d0 ca (dD d me ca).2 (dD d me ca).1:=by
 have key:∀d':bJ,d'.aj=d.aj->d'.aO=d.aO->d'.data=d.data->Ie c d0 ca (if d'.next≠-1 then(ca,{ d' with step:=3 }) else((ca.put ⟨-1,-1,d'.aj,0,true,d'.data⟩).1,{ d' with step:=6,aQ:=2,head:=me,data:=[] })).2 (if d'.next≠-1 then(ca,{ d' with step:=3 }) else((ca.put ⟨-1,-1,d'.aj,0,true,d'.data⟩).1,{ d' with step:=6,aQ:=2,head:=me,data:=[] })).1:=by
  intro d' l1 l2 l3;by_cases h:d'.next≠-1
  ·rw [if_pos h];exact⟨I,by rw [e1];exact l1,by rw [e2];exact l2,.inr (by simp only [l3];exact hd),λ_ _=> by simp only [l3];exact hd,.inl (zba _),.inr ⟨by simp,e3,λ_=> .inl ⟨by simp,rfl⟩⟩⟩
  ·rw [if_neg h];obtain⟨u,hu⟩:=MZ I.bn (e:=⟨-1,-1,d'.aj,0,true,d'.data⟩) (by simp only [l1];exact h0) (by simp only [l1];exact hf);have hu':(ca.put ⟨-1,-1,d'.aj,0,true,d'.data⟩).1.find d0.aj=some ⟨-1,-1,d'.aj,u,true,d'.data⟩:=by
    rw [e1,<-l1];exact hu
   exact⟨I.put (by simp only [l1];exact h0) (by simp only [l1];exact h1) (by simp only [l3];exact hd),by rw [e1];exact l1,by rw [e2];exact l2,.inl rfl,λ_ h=> by simp at h,.inr ⟨by rw [e2,hk];decide,rfl,Ic _ _⟩,.inr ⟨by simp,e3,λ_=> .inr ⟨rfl,_,hu',λ_=> rfl⟩⟩⟩
 unfold dD;cases ca.find d.aj with
 | none=> exact key d rfl rfl rfl
 | some own=>
  by_cases h:d.next=me
  ·simp only [if_pos h];exact key { d with next:=own.fwd } rfl rfl rfl
  ·simp only [if_neg h];exact key d rfl rfl rfl
theorem Nh {c:Cfg}{n:Node}{me:Int}(I:Ej c n.aH)(D:ae2 c n)(hs0:n.aI.step≠0){p:Pkt}(Q:xZ c p){ca:Cache}{d:bJ}(h:Dv n.aI me n.aH p=(ca,d,true)):Ie c n.aI n.aH d ca:=by
 have hf:n.aI.fits p=true:=by
  cases e:n.aI.fits p with
  | true=> rfl
  | false=> rw [AO e] at h;simp [vO] at h
 have hpk:=aa1 hf;have apO:n.aI.step=1->oW c p.data:=λe=> Q.dat (.inl (by rw [hpk,e];rfl));have apP:n.aI.step=2∨n.aI.step=3->oW c p.data:=λe=> Q.dat (.inr (by rcases e with e | e <;> rw [hpk,e] <;> rfl));have s6:n.aI.step=6->(n.aH,{ n.aI with step:=0 },true)=(ca,d,true)->Ie c n.aI n.aH d ca:=λs e=> by
  simp only [zad,and_true] at e;obtain⟨rfl,rfl⟩:=e;exact⟨I,rfl,rfl,D.dat,λ_ h=> by simp at h,.inl (zba _),.inl ⟨s,rfl,rfl⟩⟩
 unfold Dv at h;by_cases k1:n.aI.aO=1
 ·rw [if_pos k1] at h;unfold dU at h;rw [if_neg (show¬(n.aI.aO≠1∨n.aI.fits p=false) by rw [hf];rintro(h | h) <;> first | omega | cases h)] at h;have W:=D.work (by omega);by_cases t1:n.aI.step=1
  ·rw [if_pos t1] at h;have W:=W (by omega);by_cases p0:p.aQ≠0
   ·rw [if_pos p0] at h;simp only [zad,and_true] at h;obtain⟨rfl,rfl⟩:=h;exact⟨I,rfl,rfl,.inr (apO t1),λh=> by simp only at h;omega,.inl (zba _),.inr ⟨by simp,by omega,λ_=> .inl ⟨by simp,rfl⟩⟩⟩
   ·rw [if_neg p0] at h;simp only [zad,and_true] at h;obtain⟨rfl,rfl⟩:=h;obtain⟨u,hu⟩:=MZ I.bn (e:=⟨-1,-1,n.aI.aj,0,false,p.data⟩) D.lo W.full;exact⟨I.put D.lo D.hi (apO t1),rfl,rfl,.inl rfl,λ_ h=> by simp at h,.inr ⟨by omega,rfl,Ic _ _⟩,.inr ⟨by simp,by omega,λ_=> .inr ⟨rfl,_,hu,λh=> by omega⟩⟩⟩
  rw [if_neg t1] at h;by_cases t2:n.aI.step=2
  ·rw [if_pos t2] at h;have W:=W (by omega);simp only [zad,and_true] at h;obtain⟨rfl,rfl⟩:=h;obtain⟨u,hu⟩:=MZ I.bn (e:=⟨n.aI.head,-1,n.aI.aj,0,false,p.data⟩) D.lo W.full;refine⟨I.put D.lo D.hi (apP (.inl t2)),rfl,rfl,?_,λh=> by simp only at h;omega,.inr ⟨by omega,rfl,Ic _ _⟩,.inr ⟨by simp,by omega,λ_=> .inr ⟨rfl,_,hu,λh=> by omega⟩⟩⟩;simp only;split
   ·exact .inr (apP (.inl t2))
   ·exact .inl rfl
  rw [if_neg t2] at h;by_cases t6:n.aI.step=6
  ·rw [if_pos t6] at h;exact s6 t6 h
  ·rw [if_neg t6] at h;simp [vO] at h
 rw [if_neg k1] at h;by_cases k2:n.aI.aO=2
 ·rw [if_pos k2] at h;unfold dV at h;rw [if_neg (show¬(n.aI.aO≠2∨n.aI.fits p=false) by rw [hf];rintro(h | h) <;> first | omega | cases h)] at h;have W:=D.work (by omega);by_cases t1:n.aI.step=1
  ·rw [if_pos t1] at h;have W:=W (by omega);simp only [zad,and_true] at h;obtain⟨rfl,rfl⟩:=h;have key:∀dt,oW c dt->Ie c n.aI n.aH (dD { n.aI with aQ:=p.aQ,head:=p.ptr,told:=p.ptr,data:=dt,next:=p.ptr } me n.aH).2 (dD { n.aI with aQ:=p.aQ,head:=p.ptr,told:=p.ptr,data:=dt,next:=p.ptr } me n.aH).1:=λdt hdt=>
    VI (d:={ n.aI with aQ:=p.aQ,head:=p.ptr,told:=p.ptr,data:=dt,next:=p.ptr }) I D.lo D.hi W.full hdt k2 (show n.aI.step≠6 by omega) rfl rfl (by omega)
   cases hfd:n.aH.find n.aI.aj with
   | none=> exact key _ (apO t1)
   | some e=> exact key _ (I.ent e ((ig I.bn).1 hfd).1).dat
  rw [if_neg t1] at h;by_cases t3:n.aI.step=3
  ·rw [if_pos t3] at h;have W:=W (by omega);simp only [zad,and_true] at h;obtain⟨rfl,rfl⟩:=h;have key:∀dt,oW c dt->Ie c n.aI n.aH (dD { n.aI with data:=dt,next:=p.ptr } me n.aH).2 (dD { n.aI with data:=dt,next:=p.ptr } me n.aH).1:=λdt hdt=>
    VI (d:={ n.aI with data:=dt,next:=p.ptr }) I D.lo D.hi W.full hdt k2 (show n.aI.step≠6 by omega) rfl rfl (by omega)
   cases hfd:n.aH.find n.aI.aj with
   | none=> exact key _ (apP (.inr t3))
   | some e=> exact key _ (D.ahm k2 t3)
  rw [if_neg t3] at h;by_cases t6:n.aI.step=6
  ·rw [if_pos t6] at h;exact s6 t6 h
  ·rw [if_neg t6] at h;simp [vO] at h
 rw [if_neg k2] at h;have k3:n.aI.aO=3:=by have:=D.aO;omega
 rw [if_pos k3] at h;unfold eu at h;rw [if_neg (show¬(n.aI.aO≠3∨n.aI.fits p=false) by rw [hf];rintro(h | h) <;> first | omega | cases h)] at h;have no3:∀{P:Prop},n.aI.aO≠3->P:=λh=> absurd k3 h;by_cases t1:n.aI.step=1
 ·rw [if_pos t1] at h;cases hfd:n.aH.find n.aI.aj with
  | none=>
   simp only [hfd,zad,and_true] at h;obtain⟨rfl,rfl⟩:=h;exact⟨I,rfl,rfl,.inl rfl,λh=> by simp only at h;omega,.inl (zba _),.inr ⟨by simp,by omega,no3⟩⟩
  | some e=>
   simp only [hfd] at h;have E:=I.ent e ((ig I.bn).1 hfd).1;by_cases b1:e.back=-1/\e.fwd=-1
   ·simp only [if_pos b1,zad,and_true] at h;obtain⟨rfl,rfl⟩:=h;refine⟨I.drop _,rfl,rfl,?_,λh=> by simp only at h;omega,.inl (by rw [CU];exact zba _),.inr ⟨by simp,by omega,no3⟩⟩;simp only;split
    ·exact .inr E.dat
    ·exact .inl rfl
   ·simp only [if_neg b1] at h;by_cases b2:e.back=-1
    ·simp only [if_pos b2,zad,and_true] at h;obtain⟨rfl,rfl⟩:=h;exact⟨I,rfl,rfl,.inl rfl,λh=> by simp only at h;omega,.inl (zba _),.inr ⟨by simp,by omega,no3⟩⟩
    ·simp only [if_neg b2,zad,and_true] at h;obtain⟨rfl,rfl⟩:=h;exact⟨I,rfl,rfl,.inl rfl,λh=> by simp only at h;omega,.inl (zba _),.inr ⟨by simp,by omega,no3⟩⟩
 rw [if_neg t1] at h;have out:∀hd,gB n.aI n.aH hd=(ca,d,true)->n.aI.step≠6->Ie c n.aI n.aH d ca:=λhd e hs=> by
  simp only [gB,zad,and_true] at e;obtain⟨rfl,rfl⟩:=e;exact⟨I.drop _,rfl,rfl,.inl rfl,λh=> by simp only at h;omega,.inl (by rw [CU];exact zba _),.inr ⟨by simp,hs,no3⟩⟩
 by_cases t4:n.aI.step=4
 ·rw [if_pos t4] at h;split at h
  ·exact out _ h (by omega)
  ·simp only [zad,and_true] at h;obtain⟨rfl,rfl⟩:=h;exact⟨I,rfl,rfl,D.dat,λh=> by simp only at h;omega,.inl (zba _),.inr ⟨by simp,by omega,no3⟩⟩
 rw [if_neg t4] at h;by_cases t5:n.aI.step=5
 ·rw [if_pos t5] at h;split at h
  ·exact out _ h (by omega)
  ·exact out _ h (by omega)
 rw [if_neg t5] at h;by_cases t6:n.aI.step=6
 ·rw [if_pos t6] at h;exact s6 t6 h
 ·rw [if_neg t6] at h;simp [vO] at h
structure QO where
 a:Nat->Nat
 f:Nat
 P:Nat->Nat->Nat
 t:Nat
def agC(S:QO)(k:Nat)(q:Nat):Prop:=(∃i,i < 6/\q=S.a i)∨NY S.P k q∨q=S.t
structure NW(g:bD)(S:QO)(c:Cfg)(me:Int)(w:NFT):Prop where
 bG:qC g S.a c me w.1
 fab:gY g S.f S.P c w.2.1
 tr:g S.t=some (lY w.2.2)
 SV:SS S.P w.2.1.l.length
 tf:S.t≠S.f
theorem jr {g:bD}{x y:Nat}{A B:List Cell}(h:g x=some A)(h':g y=some B)(hl:A.length≠B.length):x≠y:=λe=> by
 subst e;rw [h] at h';exact hl (by rw [zaZ h'])
theorem anD {g:bD}{x y:Nat}{A B:List Cell}(h:g x=some A)(h':g y=some B)(hl:A[1]?≠B[1]?):x≠y:=λe=> by
 subst e;rw [h] at h';exact hl (by rw [zaZ h'])
section
variable {b:Nat}{K K':ah}{g g':bD}{ls:Lcl}{S:QO}{c:Cfg}{me:Int}{w:NFT}
theorem gQ {a:Nat->Nat}{d:bJ}{num:Int}:(vS a c me d num).length=22:=by simp [vS,II,Cfg.av,bJ.av]
theorem nJ {l:List Evn}:(lY l).length=1:=rfl
theorem jT {P:Nat->Nat->Nat}{n:Nat}:(ac9 P n).length=1:=rfl
theorem fV {ca:Cache}:(dn ca).length=4:=rfl
theorem iK {p:Proc}:(pU p).length=3:=rfl
theorem fZ {t:Turns}:(iC t).length=2:=rfl
theorem jG {l:List Pkt}{r:Int}:(mZ l r).length=2:=rfl
theorem jU {r:Rows}:(DJ c r).length=9:=by simp [DJ,Cfg.av]
theorem iY {d t:Nat}:(Cj d t c me).length=11:=by simp [Cj,Cfg.av]
theorem NW.aa2(N:NW g S c me w):(∀i,i < 6->S.a i≠S.t):=λi hi=> by
 obtain⟨h0,h1,h2,h3,h4,h5⟩:=N.bG
 match i,hi with
 | 0,_=> exact jr h0 N.tr (by simp only [gQ,nJ];decide)
 | 1,_=> exact jr h1 N.tr (by simp only [nJ,fV];decide)
 | 2,_=> exact jr h2 N.tr (by simp only [nJ,iK];decide)
 | 3,_=> exact jr h3 N.tr (by simp only [nJ,iY];decide)
 | 4,_=> exact jr h4 N.tr (by simp only [nJ,jU];decide)
 | 5,_=> exact jr h5 N.tr (by simp only [nJ,fZ];decide)
theorem NW.apQ(N:NW g S c me w):(∀i,i < 6->S.a i≠S.f):=λi hi=> by
 obtain⟨h0,h1,h2,h3,h4,h5⟩:=N.bG;have h:=N.fab.1
 match i,hi with
 | 0,_=> exact jr h0 h (by simp only [gQ,jT];decide)
 | 1,_=> exact jr h1 h (by simp only [jT,fV];decide)
 | 2,_=> exact jr h2 h (by simp only [jT,iK];decide)
 | 3,_=> exact jr h3 h (by simp only [jT,iY];decide)
 | 4,_=> exact jr h4 h (by simp only [jT,jU];decide)
 | 5,_=> exact jr h5 h (by simp only [jT,fZ];decide)
theorem NW.port {q:Nat}(N:NW g S c me w)(h:NY S.P w.2.1.l.length q):∃l r,g q=some (mZ l r):=by
 obtain⟨i,s,hi,hs,rfl⟩:=h;exact⟨_,_,gG (N.fab.port hi) hs⟩
theorem NW.Xn(N:NW g S c me w){q:Nat}(h:NY S.P w.2.1.l.length q):(∀i,i < 6->S.a i≠q)/\S.t≠q/\S.f≠q:=by
 obtain⟨l,r,hg⟩:=N.port h;obtain⟨h0,h1,h2,h3,h4,h5⟩:=N.bG;refine⟨λi hi=> ?_,jr N.tr hg (by simp only [nJ,jG];decide),jr N.fab.1 hg (by simp only [jT,jG];decide)⟩
 match i,hi with
 | 0,_=> exact jr h0 hg (by simp only [gQ,jG];decide)
 | 1,_=> exact jr h1 hg (by simp only [fV,jG];decide)
 | 2,_=> exact jr h2 hg (by simp only [iK,jG];decide)
 | 3,_=> exact jr h3 hg (by simp only [jG,iY];decide)
 | 4,_=> exact jr h4 hg (by simp only [jG,jU];decide)
 | 5,_=> exact anD h5 hg (by simp [iC,mZ])
theorem gY.same {f:Nat}{P:Nat->Nat->Nat}{fab:Fab}(F:gY g f P c fab)(hf:g' f=g f)(hp:∀q,NY P fab.l.length q->g' q=g q):gY g' f P c fab:=
 ⟨by rw [hf];exact F.1,λi p hi=> (F.2.1 i p hi).ext λs hs=> hp _ ⟨i,s,(zai.1 hi).1,hs,rfl⟩,F.2.2⟩
theorem NW.set(N:NW g S c me w){n:Node}(hn:qC g' S.a c me n)(h:∀q,(∀i,i < 6->q≠S.a i)->g' q=g q):NW g' S c me (n,w.2):=by
 refine⟨hn,N.fab.same (h _ λi hi=> (N.apQ i hi).symm) (λq hq=> h _ λi hi=> ((N.Xn hq).1 i hi).symm),?_,N.SV,N.tf⟩;rw [h _ λi hi=> (N.aa2 i hi).symm];exact N.tr
theorem Off.aoi {k:Nat}(h:∀q,(∀i,i < 6->q≠S.a i)->g' q=g q):Off (agC S k) g g':=λq hq=> h q λi hi e=> hq (.inl ⟨i,hi,e⟩)
theorem CV {i:Nat}(hi:i < 6){cs:List Cell}:∀q,(∀i,i < 6->q≠S.a i)->upd g (S.a i) cs q=g q:=λq hq=> aZ (hq i hi)
theorem NW.aH(N:NW g S c me w)(ca:Cache):NW (upd g (S.a 1) (dn ca)) S c me ({ w.1 with aH:=ca },w.2):=by
 refine N.set ?_ (CV (by decide));have I:=N.bG;obtain⟨h0,h1,h2,h3,h4,h5⟩:=N.bG;have ne:∀i,i < 6->i≠1->S.a i≠S.a 1:=λi hi h e=> h (I.inj hi (by decide) e);exact⟨by rw [aZ (ne 0 (by decide) (by decide))];exact h0,aU,by rw [aZ (ne 2 (by decide) (by decide))];exact h2,by rw [aZ (ne 3 (by decide) (by decide))];exact h3,by rw [aZ (ne 4 (by decide) (by decide))];exact h4,by rw [aZ (ne 5 (by decide) (by decide))];exact h5⟩
theorem NW.bP(N:NW g S c me w)(p:Proc):NW (upd g (S.a 2) (pU p)) S c me ({ w.1 with bP:=p },w.2):=by
 refine N.set ?_ (CV (by decide));have I:=N.bG;obtain⟨h0,h1,h2,h3,h4,h5⟩:=N.bG;have ne:∀i,i < 6->i≠2->S.a i≠S.a 2:=λi hi h e=> h (I.inj hi (by decide) e);exact⟨by rw [aZ (ne 0 (by decide) (by decide))];exact h0,by rw [aZ (ne 1 (by decide) (by decide))];exact h1,aU,by rw [aZ (ne 3 (by decide) (by decide))];exact h3,by rw [aZ (ne 4 (by decide) (by decide))];exact h4,by rw [aZ (ne 5 (by decide) (by decide))];exact h5⟩
theorem NW.own(N:NW g S c me w)(d:bJ)(num:Int):NW (upd g (S.a 0) (vS S.a c me d num)) S c me ({ w.1 with aI:=d,num:=num },w.2):=by
 refine N.set ?_ (CV (by decide));have I:=N.bG;obtain⟨h0,h1,h2,h3,h4,h5⟩:=N.bG;have ne:∀i,i < 6->i≠0->S.a i≠S.a 0:=λi hi h e=> h (I.inj hi (by decide) e);exact⟨aU,by rw [aZ (ne 1 (by decide) (by decide))];exact h1,by rw [aZ (ne 2 (by decide) (by decide))];exact h2,by rw [aZ (ne 3 (by decide) (by decide))];exact h3,by rw [aZ (ne 4 (by decide) (by decide))];exact h4,by rw [aZ (ne 5 (by decide) (by decide))];exact h5⟩
theorem NW.home(N:NW g S c me w)(h:Home):NW (kW g (S.a 4) (S.a 5) c h) S c me ({ w.1 with home:=h },w.2):=by
 have I:=N.bG;obtain⟨h0,h1,h2,hh⟩:=N.bG;refine N.set ?_ λq hq=> ?_
 ·have ne:∀i j,i < 6->j < 6->i≠j->S.a i≠S.a j:=λi j hi hj h e=> h (I.inj hi hj e);refine⟨?_,?_,?_,hh.ais h⟩
  ·unfold kW;rw [aZ (ne 0 5 (by decide) (by decide) (by decide)),aZ (ne 0 4 (by decide) (by decide) (by decide))];exact h0
  ·unfold kW;rw [aZ (ne 1 5 (by decide) (by decide) (by decide)),aZ (ne 1 4 (by decide) (by decide) (by decide))];exact h1
  ·unfold kW;rw [aZ (ne 2 5 (by decide) (by decide) (by decide)),aZ (ne 2 4 (by decide) (by decide) (by decide))];exact h2
 ·unfold kW;rw [aZ (hq 5 (by decide)),aZ (hq 4 (by decide))]
theorem NW.trace(N:NW g S c me w)(l:List Evn):NW (upd g S.t (lY l)) S c me (w.1,w.2.1,l):=by
 refine⟨N.bG.ext λs hs=> aZ (N.aa2 s hs),N.fab.same (aZ N.tf.symm) (λq hq=> aZ (N.Xn hq).2.1.symm),aU,N.SV,N.tf⟩
theorem NW.net(N:NW g S c me w){fab:Fab}(F:gY g' S.f S.P c fab)(hl:fab.l.length=w.2.1.l.length)(O:Off (NY S.P w.2.1.l.length) g g'):NW g' S c me (w.1,fab,w.2.2):=by
 have no:∀i,i < 6->¬NY S.P w.2.1.l.length (S.a i):=λi hi h=> (N.Xn h).1 i hi rfl;refine⟨N.bG.ext λs hs=> O _ (no s hs),F,?_,by rw [hl];exact N.SV,N.tf⟩;rw [O _ λh=> (N.Xn h).2.1 rfl];exact N.tr
theorem NW.sub(N:NW g S c me w)(h:sW g g'):NW g' S c me w:=
 ⟨N.bG.ext λs hs=> by obtain⟨l,hl⟩:=N.bG.some hs;rw [hl,h _ _ hl],N.fab.sub h,h _ _ N.tr,N.SV,N.tf⟩
theorem Loc.sub(L:Loc b K g ls):sW g (lay g ls):=λq cs h=> L.obj h
theorem Loc.home(L:Loc b K g ls){d t:Nat}{cs cs':List Cell}(h4:g d=some cs)(h5:g t=some cs'){h:Home}(G:Good b K' (kW (lay g ls) d t c h)):Loc b K' (kW g d t c h) ls:=by
 have e4:=(L.at_ h4).2;have e5:=(L.at_ h5).2;unfold kW at G ⊢;refine⟨by rw [MV e5,MV e4];exact G,λr hr=> ?_⟩;rw [aZ (λe=> by subst e;exact hr e5),aZ (λe=> by subst e;exact hr e4)];exact L.free r hr
theorem Loc.net(L:Loc b K g ls){T:Nat->Prop}(hT:∀q,T q->g q≠none){g1:bD}(G:Good b K' g1)(O:Off T (lay g ls) g1):∃g',Loc b K' g' ls/\Off T g g'/\∀q,ls q=none->g' q=g1 q:=by
 let g':bD:=λq=> match ls q with
  | some _=> none
  | none=> g1 q
 have at1:∀q,ls q=none->g' q=g1 q:=λq h=> by simp only [g',h]
 have e:lay g' ls=g1:=by
  funext q
  cases h:ls q with
  | none=> simp only [lay,h];exact at1 q h
  | some xs=>
   have:¬T q:=λht=> hT q ht (L.free q (by rw [h];simp));rw [O q this];simp only [lay,h]
 refine⟨g',⟨by rw [e];exact G,λr hr=> ?_⟩,λq hq=> ?_,at1⟩
 ·simp only [g'];cases h:ls r with
  | none=> exact absurd h hr
  | some xs=> rfl
 ·cases h:ls q with
  | none=> rw [at1 q h,O q hq];simp only [lay,h]
  | some xs=>
   simp only [g',h];rw [L.free q (by rw [h];simp)]
end
theorem NW.agree {g g':bD}{S:QO}{c:Cfg}{me:Int}{w:NFT}(N:NW g S c me w)(h:∀q,agC S w.2.1.l.length q∨q=S.f->g' q=g q):NW g' S c me w:=
 ⟨N.bG.ext λs hs'=> h _ (.inl (.inl ⟨s,hs',rfl⟩)),N.fab.same (h _ (.inr rfl)) λq hq=> h _ (.inl (.inr (.inl hq))),by rw [h _ (.inl (.inr (.inr rfl)))];exact N.tr,N.SV,N.tf⟩
theorem NW.here {g:bD}{S:QO}{c:Cfg}{me:Int}{w:NFT}(N:NW g S c me w){q:Nat}(h:agC S w.2.1.l.length q):g q≠none:=by
 rcases h with⟨i,hi,rfl⟩ | hp | rfl
 ·obtain⟨l,hl⟩:=N.bG.some hi;rw [hl];simp
 ·obtain⟨l,r,hl⟩:=N.port hp;rw [hl];simp
 ·rw [N.tr];simp
def aqp(b:Nat)(H:ah)(g:bD)(S:QO)(c:Cfg)(me:Int)(k:Nat)(H':ah)(w':NFT):Prop:=
 ∃g',Good b H' g'/\NW g' S c me w'/\Off (agC S k) g g'/\Step b H H'/\w'.2.1.l.length=k
structure Walk(b:Nat)(H:ah)(g0:bD)(S:QO)(c:Cfg)(me:Int)(k:Nat)(K:ah)(g:bD)(ls:Lcl)(w:NFT):Prop where
 hb:H.base<=b
 loc:Loc b K g ls
 nw:NW g S c me w
 off:Off (agC S k) g0 g
 step:Step b H K
 len:w.2.1.l.length=k
section
variable {b:Nat}{H:ah}{g0:bD}{S:QO}{c:Cfg}{me:Int}{k:Nat}{K K':ah}{g:bD}{ls:Lcl}{w w':NFT}
theorem Walk.of {g:bD}(G:Good b H g)(hb:H.base<=b)(N:NW g S c me w):Walk b H g S c me w.2.1.l.length H g noL w:=⟨hb,Loc.of G,N,Off.refl _ _,Step.refl _ _,rfl⟩
theorem Walk.base(W:Walk b H g0 S c me k K g ls w):K.base<=b:=by rw [W.step.base];exact W.hb
theorem Walk.res(W:Walk b H g0 S c me k K g ls w):aqp b H g0 S c me k K w:=⟨g,W.loc.out,W.nw,W.off,W.step,W.len⟩
theorem Walk.newL(W:Walk b H g0 S c me k K g ls w){ty:TypeId}{xs:List AV}{r:Nat}(hc:xs.all AV.aX=true)(hr:r=K.next)(ht:ty < gV:=by decide):Walk b H g0 S c me k (K.new (.blk 0 ty xs)) g (iD ls r xs) w:=
 ⟨W.hb,W.loc.newL hc hr ht,W.nw,W.off,W.step.trans (Step.new _ W.loc.good.1),W.len⟩
theorem Walk.whole(W:Walk b H g0 S c me k K g ls w){r n:Nat}{xs vs:List AV}(h:ls r=some xs)(hx:xs.length=n)(hn:vs.length=n)(hp:0 < n)(hv:vs.all AV.aX=true):
  ∃K',Proofs.YtgplhpgkompkmaaGreat.st n (.ref r 0 0) (.agg vs) K=some (aY,K')/\Proofs.YtgplhpgkompkmaaGreat.lda n (.ref r 0 0) K'=some (.agg vs,K')/\Walk b H g0 S c me k K' g (iD ls r vs) w:=by
 obtain⟨K',h1,h2,h3,h4⟩:=W.loc.whole W.base h hx hn hp hv;exact⟨K',h1,h2,W.hb,h3,W.nw,W.off,W.step.trans h4,W.len⟩
theorem Walk.same(W:Walk b H g0 S c me k K g ls w)(G:Good b K' (lay g ls))(s:Step b K K'):Walk b H g0 S c me k K' g ls w:=⟨W.hb,⟨G,W.loc.free⟩,W.nw,W.off,W.step.trans s,W.len⟩
theorem Walk.aH(W:Walk b H g0 S c me k K g ls w){ca:Cache}(G:Good b K' (upd (lay g ls) (S.a 1) (dn ca)))(s:Step b K K'):Walk b H g0 S c me k K' (upd g (S.a 1) (dn ca)) ls ({ w.1 with aH:=ca },w.2):=
 ⟨W.hb,W.loc.call W.nw.bG.2.1 G,W.nw.aH ca,W.off.trans (Off.aoi (CV (by decide))),W.step.trans s,W.len⟩
theorem Walk.bP(W:Walk b H g0 S c me k K g ls w){p:Proc}(G:Good b K' (upd (lay g ls) (S.a 2) (pU p)))(s:Step b K K'):Walk b H g0 S c me k K' (upd g (S.a 2) (pU p)) ls ({ w.1 with bP:=p },w.2):=
 ⟨W.hb,W.loc.call W.nw.bG.2.2.1 G,W.nw.bP p,W.off.trans (Off.aoi (CV (by decide))),W.step.trans s,W.len⟩
theorem Walk.own(W:Walk b H g0 S c me k K g ls w){d:bJ}{num:Int}(G:Good b K' (upd (lay g ls) (S.a 0) (vS S.a c me d num)))(s:Step b K K'):Walk b H g0 S c me k K' (upd g (S.a 0) (vS S.a c me d num)) ls ({ w.1 with aI:=d,num:=num },w.2):=
 ⟨W.hb,W.loc.call W.nw.bG.1 G,W.nw.own d num,W.off.trans (Off.aoi (CV (by decide))),W.step.trans s,W.len⟩
theorem Walk.home(W:Walk b H g0 S c me k K g ls w){h:Home}(G:Good b K' (kW (lay g ls) (S.a 4) (S.a 5) c h))(s:Step b K K'):Walk b H g0 S c me k K' (kW g (S.a 4) (S.a 5) c h) ls ({ w.1 with home:=h },w.2):=by
 obtain⟨h0,h1,h2⟩:=W.nw.bG.2.2.2;refine⟨W.hb,W.loc.home h1 h2 G,W.nw.home h,W.off.trans (Off.aoi λq hq=> ?_),W.step.trans s,W.len⟩;unfold kW;rw [aZ (hq 5 (by decide)),aZ (hq 4 (by decide))]
theorem Walk.trace(W:Walk b H g0 S c me k K g ls w){l:List Evn}(G:Good b K' (upd (lay g ls) S.t (lY l)))(s:Step b K K'):Walk b H g0 S c me k K' (upd g S.t (lY l)) ls (w.1,w.2.1,l):=
 ⟨W.hb,W.loc.call W.nw.tr G,W.nw.trace l,W.off.trans (Off.upd (.inr (.inr rfl))),W.step.trans s,W.len⟩
theorem Walk.Qo(W:Walk b H g0 S c me k K g ls w):NW (lay g ls) S c me w:=W.nw.sub W.loc.sub
theorem Walk.net(W:Walk b H g0 S c me k K g ls w){g1:bD}{fab:Fab}(G:Good b K' g1)(F:gY g1 S.f S.P c fab)(hl:fab.l.length=w.2.1.l.length)(O:Off (NY S.P w.2.1.l.length) (lay g ls) g1)(s:Step b K K'):∃g',Walk b H g0 S c me k K' g' ls (w.1,fab,w.2.2):=by
 obtain⟨g',L,O',h⟩:=W.loc.net (T:=NY S.P w.2.1.l.length) (λq hq=> by obtain⟨l,r,e⟩:=W.nw.port hq;rw [e];simp) G O;have no:∀{q cs},g q=some cs->ls q=none:=λe=> (W.loc.at_ e).2;have F':gY g' S.f S.P c fab:=F.same (h _ (no W.nw.fab.1)) λq hq=> by
  rw [hl] at hq;obtain⟨l,r,e⟩:=W.nw.port hq;exact h _ (no e)
 refine⟨g',W.hb,L,W.nw.net F' hl O',W.off.trans (O'.mono λq hq=> .inr (.inl (by rw [<-W.len];exact hq))),W.step.trans s,by rw [<-W.len];exact hl⟩
theorem Walk.app(W:Walk b H g0 S c me k K g ls w)(h:aqp b K (lay g ls) S c me k K' w'):∃g',Walk b H g0 S c me k K' g' ls w':=by
 obtain⟨g1,G,N,O,s,hl⟩:=h;obtain⟨g',L,O',h⟩:=W.loc.net (T:=agC S k) (λq hq=> W.nw.here (by rw [W.len];exact hq)) G O;have no:∀q,g q≠none->ls q=none:=λq hq=> by
  cases e:ls q with
  | none=> rfl
  | some xs=> exact absurd (W.loc.free q (by rw [e];simp)) hq
 refine⟨g',W.hb,L,N.agree λq hq=> h q (no q ?_),W.off.trans O',W.step.trans s,hl⟩;rcases hq with hq | rfl
 ·exact W.nw.here (by rw [W.len,<-hl];exact hq)
 ·rw [W.nw.fab.1];simp
end
section
variable {b:Nat}{H:ah}{g0:bD}{S:QO}{c:Cfg}{me:Int}{k:Nat}{K K':ah}{g:bD}{ls:Lcl}{w w':NFT}
structure PSz(p:Proc):Prop where
 ops:p.ops.length < 1000
 vals:p.bH.length<=p.ops.length
theorem Walk.ldN(W:Walk b H g0 S c me k K g ls w){i:Nat}{v:AV}(hi:(II S.a c me w.1.aI w.1.num)[i]?=some v):ld (.ref (S.a 0) 0 i) K=some (v,K):=
 W.loc.good.load (W.loc.obj W.nw.bG.1) (i:=i) (x:=v) (by rw [vS,zaR,hi];rfl)
theorem Walk.anE(W:Walk b H g0 S c me k K g ls w){i n:Nat}{ys:List AV}(hi:((II S.a c me w.1.aI w.1.num).drop i).take n=ys)(hn:ys.length=n)(hp:0 < n):lda n (.ref (S.a 0) 0 i) K=some (.agg ys,K):=
 W.loc.good.loads (W.loc.obj W.nw.bG.1) (i:=i) (n:=n) (xs:=ys) (by rw [vS,<-hi,zcV,zdC]) hn hp
theorem Walk.cur(W:Walk b H g0 S c me k K g ls w)(hp:PSz w.1.bP):∃K',cl 136 [.ref (S.a 2) 0 0] K=some (.tup [.agg w.1.bP.op.av,I w.1.bP.idx,B w.1.bP.cur.isSome],K')/\Walk b H g0 S c me k K' g ls w:=by
 obtain⟨K',h1,h2,h3⟩:=aiC W.loc.good W.base (W.loc.obj W.nw.bG.2.2.1) hp.ops (by have:=hp.vals;have:=hp.ops;omega) hp.vals;exact⟨K',h1,W.same h2 h3⟩
theorem Walk.pend(W:Walk b H g0 S c me k K g ls w)(hp:PSz w.1.bP)(v:Int):∃r K' g',cl 187 [.ref (S.a 2) 0 0,I v] K=some (r,K')/\Walk b H g0 S c me k K' g' ls ({ w.1 with bP:=w.1.bP.BL v },w.2):=by
 obtain⟨r,K',h1,h2,h3⟩:=aiB W.loc.good W.base (W.loc.obj W.nw.bG.2.2.1) (by have:=hp.vals;have:=hp.ops;omega) v;exact⟨r,K',_,h1,W.bP h2 h3⟩
theorem Walk.tend(W:Walk b H g0 S c me k K g ls w)(hl:w.2.2.length < 1000000)(n i v:Int):∃K' g',cl 188 [.ref S.t 0 0,I n,I i,I v] K=some (.tup [],K')/\Walk b H g0 S c me k K' g' ls (w.1,w.2.1,w.2.2++[⟨n,i,true,v⟩]):=by
 obtain⟨K',h1,h2,h3⟩:=adD W.loc.good W.base (W.loc.obj W.nw.tr) hl n i v;exact⟨K',_,h1,W.trace h2 h3⟩
theorem Walk.anF(W:Walk b H g0 S c me k K g ls w)(hl:w.2.2.length < 1000000)(n i:Int):∃K' g',cl 147 [.ref S.t 0 0,I n,I i] K=some (.tup [],K')/\Walk b H g0 S c me k K' g' ls (w.1,w.2.1,w.2.2++[⟨n,i,false,0⟩]):=by
 obtain⟨K',h1,h2,h3⟩:=Xk W.loc.good W.base (W.loc.obj W.nw.tr) hl n i;exact⟨K',_,h1,W.trace h2 h3⟩
theorem Walk.ard(W:Walk b H g0 S c me k K g ls w)(C:COk w.1.aH)(e:Ent){x:AV}(hel:e.data.length < 1000000000)(hx:kE K x e.data):∃K' g',cl 191 [.ref (S.a 1) 0 0,.agg (e.avx x)] K=some (I (w.1.aH.put e).2,K')/\Walk b H g0 S c me k K' g' ls ({ w.1 with aH:=(w.1.aH.put e).1 },w.2):=by
 obtain⟨K',h1,h2,h3⟩:=Vy W.loc.good W.base (W.loc.obj W.nw.bG.2.1) C.len C.sets C.clk e hel hx;exact⟨K',_,h1,W.aH h2 h3⟩
theorem Walk.find(W:Walk b H g0 S c me k K g ls w)(C:COk w.1.aH)(aj:Int):cl 41 [.ref (S.a 1) 0 0,I aj] K=some (oP (w.1.aH.find aj),K):=
 qF W.loc.good (W.loc.obj W.nw.bG.2.1) C.len C.dat aj
theorem Walk.send(W:Walk b H g0 S c me k K g ls w)(F:FOk c w.2.1)(p:Pkt)(hl:p.data.length < 1000000000):∃K' g',cl 143 [.ref S.f 0 0,.agg p.av] K=some (I (w.2.1.send p).2,K')/\Walk b H g0 S c me k K' g' ls (w.1,(w.2.1.send p).1,w.2.2):=by
 obtain⟨K',g1,h1,h2,h3,h4,h5⟩:=aiu W.loc.good W.base W.Qo.fab W.nw.SV F p hl;have hlen:(w.2.1.send p).1.l.length=w.2.1.l.length:=by
  unfold Fab.send;split
  ·rfl
  ·split
   ·rfl
   ·simp [Fab.put]
 obtain⟨g',W'⟩:=W.net h2 h3 hlen h4 h5;exact⟨K',g',h1,W'⟩
theorem aa3(W:Walk b H g0 S c me k K g ls w)(hp:PSz w.1.bP)(hl:w.2.2.length < 1000000)(v:Int):
  ∃K' g',cl 137 [.ref (S.a 0) 0 0,.ref S.t 0 0,I v] K=some (.tup [],K')/\Walk b H g0 S c me k K' g' ls ((w.1.done me w.2.2 v).1,w.2.1,(w.1.done me w.2.2 v).2):=by
 have G:=W.loc.good;have W0:=Walk.of G W.base W.Qo;have l1:=W0.ldN (i:=1) (v:=.ref (S.a 2) 0 0) rfl;obtain⟨K1,a1,W1⟩:=W0.cur hp;have W2:=W1.newL (ty:=61) (xs:=[zI,zI,zI]) (r:=K1.next) rfl rfl;obtain⟨K3,b1,b2,W3⟩:=W2.whole ak (n:=3) (vs:=w.1.bP.op.av) rfl (gK _) (by decide) (rX _);have l3:=W3.ldN (i:=1) (v:=.ref (S.a 2) 0 0) rfl;obtain⟨r,K4,g4,c1,W4⟩:=W3.pend hp v;have l4:=W4.ldN (i:=10) (v:=I me) rfl;obtain⟨K5,g5,d1,W5⟩:=W4.tend hl me w.1.bP.idx v;obtain⟨g',W'⟩:=W.app (K':=K5) (w':=((w.1.done me w.2.2 v).1,w.2.1,(w.1.done me w.2.2 v).2)) (by
  have:=W5.res;rw [W.len] at this;exact this)
 refine⟨K5,g',bg rfl rfl (alu _ _ _ _ _ ?_),W'⟩;simp only [xq_,afv,l1,a1,b1,l3,c1,l4,d1]
theorem TA(W:Walk b H g0 S c me k K g ls w)(hc:c.ok=true)(F:FOk c w.2.1)(hd:w.1.aI.data.length < 1000000000):
  ∃K' g',cl 139 [.ref (S.a 0) 0 0,.ref S.f 0 0] K=some (.tup [],K')/\Walk b H g0 S c me k K' g' ls (w.1,w.1.acB c me w.2.1,w.2.2):=by
 have G:=W.loc.good;have W0:=Walk.of G W.base W.Qo;have l1:=W0.anE (i:=12) (n:=9) (ys:=w.1.aI.av) rfl rfl (by decide);have l2:=W0.ldN (i:=10) (v:=I me) rfl;have l3:=W0.anE (i:=2) (n:=8) (ys:=c.av) rfl rfl (by decide);have l4:=W0.ldN (i:=13) (v:=I w.1.aI.aj) rfl;have e1:=GN K.guard c hc w.1.aI.aj;have e2:=anA K w.1.aI me (c.bf w.1.aI.aj) hd;have hal:(w.1.aI.ask me (c.bf w.1.aI.aj)).data.length < 1000000000:=by
  unfold bJ.ask
  repeat' split
  all_goals first | exact hd | exact(show(0:Nat) < 1000000000 by decide)
 obtain⟨K5,g5,d1,W5⟩:=W0.send F (w.1.aI.ask me (c.bf w.1.aI.aj)) hal;obtain⟨g',W'⟩:=W.app (K':=K5) (w':=(w.1,w.1.acB c me w.2.1,w.2.2)) (by
  have:=W5.res;rw [W.len] at this;exact this)
 refine⟨K5,g',bg rfl rfl (aly _ _ _ _ ?_),W'⟩;simp only [Nat.reduceAdd,xq_,afw,l1,l2,l3,l4,e1,e2,d1]
end
theorem aiD {n:Nat}{x v r:AV}{H H':ah}(h:st n x v H=some (r,H')):H'.next=H.next:=by
 unfold st at h;split at h
 ·split at h
  ·split at h
   ·cases h;rfl
   ·cases h
  ·cases h
 ·cases h
theorem is0(H:ah)(e:Ent)(w:Int):cl0 222 [.agg e.av,I w] H=some (B (decide (0<=w/\w < e.data.length)),H.new (.blk 0 100 e.av)):=by
 refine iG (agj _ _ _ _ ?_);have e1:=λH=> (mQ H e.data).lnS;by_cases h0:0<=w
 ·simp only [Nat.reduceLT,xq_,hq_,PK,aF,Ent.av,h0,e1]
 ·simp only [Nat.reduceLT,xq_,hq_,PK,aF,Ent.av,h0,false_and]
theorem anG(H:ah)(l:List Int)(h:l≠[])(hl:l.length < 1000000000):cl0 36 [dat l] H=some (.sl (H.next+1) 0 0 1 l.length l.length false,(H.new (.blk 0 3 [])).new (.blk 0 (3+gV) (l.map I))):=by
 have h0:l.length≠0:=λe=> h (zas e);have e2:=sU (e:=3) (by_:=8) (r:=H.next) (H:=H.new (.blk 0 3 [])) qo (mQ _ l) (Ai l) h0 (by unfold most;omega) (by unfold most;omega);simp only [fA] at e2;have e1:bi .eql 22 (dat l) zN=some (B false):=by rw [yD h];exact sV Tryz.underlying22
 refine iG (Sm _ _ _ ?_);simp only [xq_,Px,e1,IG,yQ,e2,zbq,zaT]
section
variable {b:Nat}{H:ah}{g0:bD}{S:QO}{c:Cfg}{me:Int}{k:Nat}{K K':ah}{g:bD}{ls:Lcl}{w w':NFT}
theorem Walk.new(W:Walk b H g0 S c me k K g ls w)(o:fU):Walk b H g0 S c me k (K.new o) g ls w:=⟨W.hb,W.loc.new o,W.nw,W.off,W.step.trans (Step.new _ W.loc.good.1),W.len⟩
theorem Nk {args:List AV}{r:AV × ah}(h:cl0 190 args K=some r):cl 190 args K=some r:=FT (p:=cl0 190) rfl h
theorem Walk.write(W:Walk b H g0 S c me k K g ls w){r:Nat}{e:Ent}(h:ls r=some e.av)(he:e.data.length < 1000000000)(i v:Int):
  ∃res K' x,cl 190 [.ref r 0 0,I i,I v] K=some (res,K')/\kE K' x (e.write i v).data/\Walk b H g0 S c me k K' g (iD ls r ((e.write i v).avx x)) w:=by
 have same:iD ls r e.av=ls:=by
  funext x;simp only [iD];split
  ·rename_i hx;rw [hx,h]
  ·rfl
 have hr:r < K.next:=W.loc.good.lt (pK h)
 have l4:=W.loc.ld h (i:=4) (v:=B e.bZ) rfl;cases hd:e.bZ with
 | false=>
  have hm:e.write i v=e:=by unfold Ent.write;rw [if_neg (by simp [hd])]
  rw [hm];rw [hd] at l4;refine⟨B false,K,dat e.data,Nk (iG (ZQ _ _ _ _ _ ?_)),pV _ _,by
   have:e.avx (dat e.data)=e.av:=rfl;rw [this,same];exact W⟩
  simp only [xq_,U8,l4,zal]
 | true=>
  rw [hd] at l4;have la:=W.loc.lda h (i:=0) (n:=6) (ys:=e.av) rfl rfl (by decide);have e1:=is0 K e i;have W1:=W.new (.blk 0 100 e.av);by_cases hi:0<=i/\i < e.data.length
  ·have hm:e.write i v={ e with data:=e.data.set i.toNat v }:=by unfold Ent.write;rw [if_pos ⟨hd,hi⟩]
   have hne:e.data≠[]:=λh0=> by rw [h0] at hi;simp at hi;omega
   have e2:=anG (K.new (.blk 0 100 e.av)) e.data hne he;simp only [fA] at e2;have l5:=W1.loc.ld h (i:=5) (v:=dat e.data) rfl;let y:AV:=.sl (K.next+1+1) 0 0 1 e.data.length e.data.length false;obtain⟨K3,u1,L3,s3⟩:=W.loc.st W.base h (i:=5) (v:=y) (by simp [Ent.av]) qX;have nx:=aiD u1;let o1:fU:=.blk 0 100 e.av;let o2:fU:=.blk 0 3 [];let o3:fU:=.blk 0 (3+gV) (e.data.map I);have u2:st 1 (.ref r 0 5) y (((K.new o1).new o2).new o3)=some (aY,((K3.new o1).new o2).new o3):=by
    rw [O9 (by rw [fA,fA];omega),O9 (by rw [fA];omega),O9 hr,u1];rfl
   have L4:=((L3.new o1).new o2).new o3;have l5':=L4.ld ak (i:=5) (v:=y) (by simp [Ent.av]);have hn2:((K3.new o1).new o2).next=K.next+1+1:=by rw [fA,fA,nx]
   have hs:aW (((K3.new o1).new o2).new o3) y 1 e.data.length (e.data.map I):=by
    have:=ku (e:=3+gV) (m:=1) (n:=e.data.length) (l:=e.data.map I) (H:=(K3.new o1).new o2) (ex:=false) (by simp);rw [hn2] at this;exact this
   have ex:=hs.ix (k:=.i64) (i:=i) hi.1 hi.2;have ep:eU y i.toNat=.ref (K.next+1+1) 0 i.toNat:=by simp [y,eU]
   rw [ep] at ex;have u3:st 1 (.ref (K.next+1+1) 0 i.toNat) (I v) (((K3.new o1).new o2).new o3)=some (aY,((K3.new o1).new o2).new (.blk 0 (3+gV) ((e.data.set i.toNat v).map I))):=by
    rw [Gg hn2.symm];have hbK:((K3.new o1).new o2).base<=K.next+1+1:=by
     rw [jy,jy,s3.base];have:=W.base;have:=W.loc.good.1;omega
    have hset:aN (e.data.map I) i.toNat (I v).cells=(e.data.set i.toNat v).map I:=by
     rw [show(I v).cells=[I v] from rfl];have hlt:i.toNat < (e.data.map I).length:=by simp;omega
     unfold aN;rw [List.map_set,zdb,if_pos hlt];simp
    rw [hset,if_pos ⟨hbK,rfl,rfl,by rw [show(I v).cells=[I v] from rfl];simp only [zaD,zam,zan];omega⟩]
   refine⟨B true,((K3.new o1).new o2).new (.blk 0 (3+gV) ((e.data.set i.toNat v).map I)),y,Nk (iG (ZQ _ _ _ _ _ ?_)),?_,?_⟩;rotate_left
   ·rw [hm];have:=ku (e:=3+gV) (m:=1) (n:=(e.data.set i.toNat v).length) (l:=(e.data.set i.toNat v).map I) (H:=(K3.new o1).new o2) (ex:=false) (by simp);rw [hn2] at this;rw [zcm] at this;refine⟨?_,qX,λh0=> ?_⟩
    ·simp only [zcm];exact this
    ·have:=congrArg List.length h0;simp at this;exact absurd this hne
   ·rw [hm];have L5:=((L3.new o1).new o2).new (.blk 0 (3+gV) ((e.data.set i.toNat v).map I));have hx:(e.av.set 5 y)=({ e with data:=e.data.set i.toNat v }:Ent).avx y:=rfl;rw [hx] at L5;exact⟨W.hb,L5,W.nw,W.off,((((W.step.trans s3).trans (Step.new _ L3.good.1)).trans (Step.new _ (L3.new o1).good.1)).trans (Step.new _ ((L3.new o1).new o2).good.1)),W.len⟩
   ·simp only [o1,o2,o3,y] at u2 l5' ex u3;rw [decide_eq_true hi] at e1;simp only [xq_,U8,l4,la,e1,zae,l5,e2,u2,l5',ex,u3];rfl
  ·have hm:e.write i v=e:=by unfold Ent.write;rw [if_neg (λh=> hi h.2)]
   rw [hm];refine⟨B false,_,dat e.data,Nk (iG (ZQ _ _ _ _ _ ?_)),pV _ _,by
    have:e.avx (dat e.data)=e.av:=rfl;rw [this,same];exact W1⟩
   rw [decide_eq_false hi] at e1;simp only [xq_,U8,l4,la,e1,zae,zal]
end
end
end Go.Proofs.YtgplhpgkompkmaaGreat
