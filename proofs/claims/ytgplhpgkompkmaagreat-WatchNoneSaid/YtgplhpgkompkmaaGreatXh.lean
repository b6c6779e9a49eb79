/-
  Own work: an interpreter over named blocks, its soundness, and what the functions of this seat compute (part 8 of 10).
  Conditions: those of the statement alone.
-/
import Derived.Shelf.SlGeneric
import Derived.Ground.SlgmProg
import Derived.Ground.GgzProg
import Derived.Shelf.SortM.SortNone
import Derived.Shelf.SortM.Plain
import Derived.Shelf.SlIterI.Nil
import Derived.Test.YtgplhpgkompkmaaGreatProg
import Derived.KernelRfl
import Derived.Test.YtgplhpgkompkmaaGreatXg
set_option linter.all false
set_option linter.unusedSectionVars false
set_option linter.unusedVariables false
set_option linter.unusedSimpArgs false
namespace Go.Proofs
open Go.Shelf
def Tryz.sortedA_ren:Go.Shelf.Ren:=⟨fun | 6=> 45 | 8=> 86 | 9=> 73 | 11=> 127 | 13=> 118 | 12=> 117 | 23=> 171 | 24=> 172 | 14=> 162 | 15=> 163 | 16=> 164 | 17=> 165 | 18=> 166 | 19=> 167 | 20=> 168 | 21=> 169 | 22=> 170 | 25=> 205 | 26=> 206 | 27=> 207 | 28=> 208 | 29=> 209 | 30=> 210 | 31=> 233 | n=> n,fun | 26=> 3 | 28=> 109 | 24=> 22 | 0=> 0 | 3=> 3 | 37=> 203 | 48=> 260 | 50=> 262 | 4=> 4 | 40=> 254 | 39=> 253 | 45=> 215 | 5=> 5 | 9=> 9 | 51=> 304 | 55=> 308 | 57=> 324 | 58=> 84 | 33=> 140 | n=> n,fun | n=> n⟩
theorem Tryz.sortedA:Go.Proofs.SlLaysZI.n6 Tryz.prog Tryz.sortedA_ren:={
 mixed:=by kernel_rfl
 f6:=⟨Tryz.f45.name,by decide,Tryz.func45.trans (congrArg some (by kernel_rfl))⟩
 f8:=⟨Tryz.f86.name,by decide,Tryz.func86.trans (congrArg some (by kernel_rfl))⟩
 f11:=⟨Tryz.f127.name,by decide,Tryz.func127.trans (congrArg some (by kernel_rfl))⟩
 t0:=Tryz.underlying0
 a0:=Tryz.isAgg0
 z0:=Tryz.sizeOf0
 v0:=Tryz.zeroValue0
 t24:=Tryz.underlying22
 a24:=Tryz.isAgg22
 z24:=Tryz.sizeOf22
 v24:=Tryz.zeroValue22
 t26:=Tryz.underlying3
 a26:=Tryz.isAgg3
 z26:=Tryz.sizeOf3
 v26:=Tryz.zeroValue3
 t28:=Tryz.underlying109
 a28:=Tryz.isAgg109
 z28:=Tryz.sizeOf109
 v28:=Tryz.zeroValue109
 i26:=by kernel_rfl }
def Tryz.keysA_ren:Go.Shelf.Ren:=⟨fun | 7=> 224 | 10=> 239 | n=> n,fun | 23=> 216 | 26=> 3 | 3=> 320 | 28=> 109 | 0=> 0 | 27=> 108 | 33=> 140 | 4=> 4 | n=> n,fun | n=> n⟩
theorem Tryz.keysA:Go.Proofs.SlLaysZI.n7 Tryz.prog Tryz.keysA_ren:={
 mixed:=by kernel_rfl
 f7:=⟨Tryz.f224.name,by decide,Tryz.func224.trans (congrArg some (by kernel_rfl))⟩
 f10:=⟨Tryz.f239.name,by decide,Tryz.func239.trans (congrArg some (by kernel_rfl))⟩
 t0:=Tryz.underlying0
 a0:=Tryz.isAgg0
 z0:=Tryz.sizeOf0
 v0:=Tryz.zeroValue0
 t4:=Tryz.underlying4
 a4:=Tryz.isAgg4
 z4:=Tryz.sizeOf4
 v4:=Tryz.zeroValue4
 t23:=Tryz.underlying216
 a23:=Tryz.isAgg216
 z23:=Tryz.sizeOf216
 v23:=Tryz.zeroValue216
 t26:=Tryz.underlying3
 a26:=Tryz.isAgg3
 z26:=Tryz.sizeOf3
 v26:=Tryz.zeroValue3
 t27:=Tryz.underlying108
 a27:=Tryz.isAgg108
 z27:=Tryz.sizeOf108
 v27:=Tryz.zeroValue108
 t28:=Tryz.underlying109
 a28:=Tryz.isAgg109
 z28:=Tryz.sizeOf109
 v28:=Tryz.zeroValue109
 t33:=Tryz.underlying140
 a33:=Tryz.isAgg140
 z33:=Tryz.sizeOf140
 v33:=Tryz.zeroValue140 }
def Tryz.sortA_ren:Go.Shelf.Ren:=⟨fun | 5=> 73 | 8=> 118 | 7=> 117 | 19=> 171 | 20=> 172 | 10=> 162 | 11=> 163 | 12=> 164 | 13=> 165 | 14=> 166 | 15=> 167 | 16=> 168 | 17=> 169 | 18=> 170 | 30=> 205 | 31=> 206 | 32=> 207 | 33=> 208 | 34=> 209 | 35=> 210 | 40=> 233 | n=> n,fun | 23=> 22 | 25=> 3 | 3=> 3 | 32=> 203 | 22=> 22 | 0=> 0 | 44=> 260 | 46=> 262 | 4=> 4 | 36=> 254 | 35=> 253 | 41=> 215 | 5=> 5 | 9=> 9 | 53=> 304 | 57=> 308 | 63=> 324 | 64=> 84 | n=> n,fun | n=> n⟩
theorem Tryz.sortA:Go.Proofs.SlLaysM.n5 Tryz.prog Tryz.sortA_ren:={
 mixed:=by kernel_rfl
 f5:=⟨Tryz.f73.name,by decide,Tryz.func73.trans (congrArg some (by kernel_rfl))⟩
 f7:=⟨Tryz.f117.name,by decide,Tryz.func117.trans (congrArg some (by kernel_rfl))⟩
 f8:=Tryz.func118.trans (congrArg some (by kernel_rfl))
 f10:=⟨Tryz.f162.name,by decide,Tryz.func162.trans (congrArg some (by kernel_rfl))⟩
 f11:=⟨Tryz.f163.name,by decide,Tryz.func163.trans (congrArg some (by kernel_rfl))⟩
 f12:=⟨Tryz.f164.name,by decide,Tryz.func164.trans (congrArg some (by kernel_rfl))⟩
 f13:=⟨Tryz.f165.name,by decide,Tryz.func165.trans (congrArg some (by kernel_rfl))⟩
 f14:=⟨Tryz.f166.name,by decide,Tryz.func166.trans (congrArg some (by kernel_rfl))⟩
 f15:=⟨Tryz.f167.name,by decide,Tryz.func167.trans (congrArg some (by kernel_rfl))⟩
 f16:=⟨Tryz.f168.name,by decide,Tryz.func168.trans (congrArg some (by kernel_rfl))⟩
 f17:=⟨Tryz.f169.name,by decide,Tryz.func169.trans (congrArg some (by kernel_rfl))⟩
 f18:=⟨Tryz.f170.name,by decide,Tryz.func170.trans (congrArg some (by kernel_rfl))⟩
 f19:=Tryz.func171.trans (congrArg some (by kernel_rfl))
 f20:=Tryz.func172.trans (congrArg some (by kernel_rfl))
 f30:=⟨Tryz.f205.name,by decide,Tryz.func205.trans (congrArg some (by kernel_rfl))⟩
 f31:=Tryz.func206.trans (congrArg some (by kernel_rfl))
 f32:=Tryz.func207.trans (congrArg some (by kernel_rfl))
 f33:=⟨Tryz.f208.name,by decide,Tryz.func208.trans (congrArg some (by kernel_rfl))⟩
 f34:=⟨Tryz.f209.name,by decide,Tryz.func209.trans (congrArg some (by kernel_rfl))⟩
 f35:=⟨Tryz.f210.name,by decide,Tryz.func210.trans (congrArg some (by kernel_rfl))⟩
 f40:=⟨Tryz.f233.name,by decide,Tryz.func233.trans (congrArg some (by kernel_rfl))⟩
 t0:=Tryz.underlying0
 a0:=Tryz.isAgg0
 z0:=Tryz.sizeOf0
 v0:=Tryz.zeroValue0
 t3:=Tryz.underlying3
 a3:=Tryz.isAgg3
 z3:=Tryz.sizeOf3
 v3:=Tryz.zeroValue3
 t4:=Tryz.underlying4
 a4:=Tryz.isAgg4
 z4:=Tryz.sizeOf4
 v4:=Tryz.zeroValue4
 t5:=Tryz.underlying5
 a5:=Tryz.isAgg5
 z5:=Tryz.sizeOf5
 v5:=Tryz.zeroValue5
 t9:=Tryz.underlying9
 a9:=Tryz.isAgg9
 z9:=Tryz.sizeOf9
 v9:=Tryz.zeroValue9
 t22:=Tryz.underlying22
 a22:=Tryz.isAgg22
 z22:=Tryz.sizeOf22
 v22:=Tryz.zeroValue22
 t23:=Tryz.underlying22
 a23:=Tryz.isAgg22
 z23:=Tryz.sizeOf22
 v23:=Tryz.zeroValue22
 t25:=Tryz.underlying3
 a25:=Tryz.isAgg3
 z25:=Tryz.sizeOf3
 v25:=Tryz.zeroValue3
 t32:=Tryz.underlying203
 a32:=Tryz.isAgg203
 z32:=Tryz.sizeOf203
 v32:=Tryz.zeroValue203
 t35:=Tryz.underlying253
 a35:=Tryz.isAgg253
 z35:=Tryz.sizeOf253
 v35:=Tryz.zeroValue253
 t36:=Tryz.underlying254
 a36:=Tryz.isAgg254
 z36:=Tryz.sizeOf254
 v36:=Tryz.zeroValue254
 t41:=Tryz.underlying215
 a41:=Tryz.isAgg215
 z41:=Tryz.sizeOf215
 v41:=Tryz.zeroValue215
 t44:=Tryz.underlying260
 a44:=Tryz.isAgg260
 z44:=Tryz.sizeOf260
 v44:=Tryz.zeroValue260
 t46:=Tryz.underlying262
 a46:=Tryz.isAgg262
 z46:=Tryz.sizeOf262
 v46:=Tryz.zeroValue262
 t53:=Tryz.underlying304
 a53:=Tryz.isAgg304
 z53:=Tryz.sizeOf304
 v53:=Tryz.zeroValue304
 t57:=Tryz.underlying308
 a57:=Tryz.isAgg308
 z57:=Tryz.sizeOf308
 v57:=Tryz.zeroValue308
 t63:=Tryz.underlying324
 a63:=Tryz.isAgg324
 z63:=Tryz.sizeOf324
 v63:=Tryz.zeroValue324
 t64:=Tryz.underlying84
 a64:=Tryz.isAgg84
 z64:=Tryz.sizeOf84
 v64:=Tryz.zeroValue84 }
end Go.Proofs
namespace Go.Proofs.YtgplhpgkompkmaaGreat
noncomputable section
open Go.RowKit Go.Maps Go.Sort Go.Shelf
theorem Xb(m:Nat):AnyZI.SortsIn Tryz.prog Tryz.sortedA_ren Fence.wide m:=
 ⟨λblk off cap ss W hH hblk hsz=> callsIn_wide.2 (AnyM.slices_Sort_int Tryz.sortA blk off cap ss W hH hblk hsz),
  λp cap W=> callsIn_wide.2 (AnyM.slices_Sort_int_none Tryz.sortA p cap W)⟩
abbrev ad3:Value->Option (DataW Unit × List MemPlace):=λ_=> some (.lit (.bool true),[])
theorem ahY {ρ:Ren}{H:ah}{w w':World}(R:Rel ρ H w)(hb:Below w.heap.size w w'){v:Value}{zs:List Int}{e:TypeId}(h0:zs≠[])(h:w'.ownsRow w.heap.size e 1 v zs.length (zs.map encZ)):
  RV ρ H.gen w' (.vs zs.length 1 (zs.map λn=> .s (.int .i64 n))) v:=by
 obtain⟨_,⟨rfl,h1⟩ | ⟨gb,cap,cur,rfl,h1,h2,h3,h4,h5,h6⟩⟩:=h
 ·exact absurd (zan h1) h0
 ·simp only [RV];refine⟨gb,0,cap,rfl,h3,by simp,(zbp.1 h2).1,KQ R h1,?_⟩;have key:∀(l:List Int) (o:Nat),(∀j,j < l.length->w'.cell? ⟨gb,o+j,none⟩=(l[j]?).map encZ)->RVc ρ H.gen w' (l.map λn=> .s (.int .i64 n)) gb o:=by
   intro l
   induction l with
   | nil=> intro o _;simp only [zbz,RVc]
   | cons a l ih=>
    intro o hc;simp only [zaA,RVc];refine⟨⟨encZ a,by have:=hc 0 (by simp);simpa using this,by simp only [RV]⟩,ih (o+1) λj hj=> ?_⟩;have:=hc (j+1) (by simp only [zam];omega);rw [show o+(j+1)=o+1+j by omega] at this
    simpa using this
  refine key zs 0 λj hj=> ?_;rw [za4,zbC] at*;have hcj:cur.toList[j]?=(zs.map encZ)[j]?:=by rw [<-h6,zaH,if_pos hj]
  rw [zas] at hcj;unfold World.cell?;simp only [h2,<-hcj,zcz,zbI,zaj,if_false]
set_option maxRecDepth 100000 in
theorem O4(F:Fence)(n:Nat)(h7:F.fn 87)(hro:F.round=none)(l Bs:Nat)(J:List Int->World->Prop)(W:World)(hBs:W.cell? ⟨Bs,0,none⟩=some (.slice none 0 0))(h0:J [] W):CallsIn F n Tryz.prog 87 #[.func (.yield l) #[] #[],.pointer (some ⟨Bs,0,none⟩)] W λe W'=> (∃v,e=.returned v)/\J [] W':=by
 refine callsIn_of_wp Tryz.func87 rfl h7 ?_ hro;simp only [Tryz.ntmps87,zdj,zam,zak,Nat.reduceAdd,Nat.reduceSub,Array.replicate_succ,Array.replicate_zero,List.push_toArray,List.append_toArray,zaS,zbf]
 gi_wp2
 gi_loopw [7] (λi wr=> i=.int .i64 0/\J [] wr) (λ_ _=> 0)
 case atStart=> exact⟨rfl,h0⟩
 case round=> obtain⟨rfl,hJs⟩:=hrel;gi_wp2;go_end0;exact⟨⟨_,rfl⟩,hJs⟩
theorem O5:Qv 45 (yP Gi zU):=by
 have key:∀args H v H',yP Gi zU args H=some (v,H')->H'=H/\∃f r g,args=[.fn (.func f) [] [.ref r g 0]]/\f≠0/\
   ((∃ty m es,H.get r=.blk g ty [.mp m]/\ty < gB/\H.get m=.map .i64 es/\f∈Gi/\(es.map (·.1)).Nodup/\(es.all λe=> (Lit.int .i64 e.1).wf)=true/\es.length<=1000000/\v=acW (es.map (·.1)))∨
    (∃ty,H.get r=.blk g ty [.s (.slice none 0 0)]/\ty < gB/\f∈zU/\v=acV)):=by
  intro args H v H' h;unfold yP at h;split at h
  ·rename_i f r g;split at h
   ·rename_i g' ty m hr;split at h
    ·rename_i es hm;split at h
     ·rename_i hc;obtain⟨rfl,h1,h2,h3,h4,h5,h6⟩:=hc;cases h;exact⟨rfl,f,r,_,rfl,h2,.inl ⟨ty,m,es,hr,h1,hm,h3,h4,h5,h6,rfl⟩⟩
     ·cases h
    ·cases h
   ·rename_i g' ty hr;split at h
    ·rename_i hc;obtain⟨rfl,h1,h2,h3⟩:=hc;cases h;exact⟨rfl,f,r,_,rfl,h2,.inr ⟨ty,hr,h1,h3,rfl⟩⟩
    ·cases h
   ·cases h
  ·cases h
 refine⟨F8 λargs H v H' h ρ w jR R ha=> ?_,λargs H v H' h=> ?_⟩;rotate_left
 ·rw [(key _ _ _ _ h).1];exact Keeps.refl H
 ·obtain⟨rfl,f,r,g,rfl,hf0,hh⟩:=key _ _ _ _ h;obtain⟨cf,rfl,h1⟩:=Ob ha;simp only [RV] at h1;obtain⟨fa,fc,rfl,h2,h3⟩:=h1;have hfa:fa=#[]:=by simp only [RVs] at h2;exact Array.ext' (by simpa using h2)
  subst hfa;obtain⟨cp,rfl,h4⟩:=Ob h3;simp only [RV] at h4;obtain⟨a,rfl,h5,h6⟩:=h4;rcases hh with⟨ty,m,es,hr,hty,hm,hk,hnd,hwf,hlen,rfl⟩ | ⟨ty,hr,hty,hv,rfl⟩
  ·have hg:H'.gen r=g:=by simp [ah.gen,hr,eP.gen]
   obtain⟨b,sh,h7,rfl⟩:=h6 hg;have ru:=R.obj r b sh h7;simp only [uZ,hr] at ru;obtain⟨cs,e,o1,o2,o3,o4⟩:=ru;obtain⟨o5,rfl,o7⟩:=o4.1 hty;simp only [RVc] at o3;obtain⟨⟨mv,o8,o9⟩,_⟩:=o3;simp only [RV] at o9;obtain⟨bm,rfl,o10⟩:=o9;have o11:=o10 (by simp [ah.gen,hm,eP.gen]);have hmo:=R.obj m bm 0 o11;simp only [uZ,hm] at hmo;obtain⟨ces,dH,m1,_,m3,m4⟩:=hmo;have hkeys:ces.toList.map (λx=> x.key)=(es.map (·.1)).map encZ:=by
    have:∀(es:List (Int × AV)) (l:List MapEntry),RVm ρ H'.gen w .i64 es l->l.map (λx=> x.key)=(es.map (·.1)).map encZ:=by
     intro es
     induction es with
     | nil=> intro l hl;simp only [RVm] at hl;subst hl;rfl
     | cons x es ih=>
      intro l hl;obtain⟨n,y⟩:=x;simp only [RVm] at hl;obtain⟨e,es',rfl,k1,_,k3⟩:=hl;simp only [zaA,k1,ih es' k3]
    exact this es _ m3
   have hsz:ces.size=es.length:=by
    have:=congrArg List.length hkeys
    simpa using this
   have hrd:∀x∈ces.toList,∃n,n∈es.map (·.1)/\x.key=encZ n/\Go.WideElems.rd Tryz.prog 3 ad3 x=some (.int .i64 n,.lit (.bool true)):=by
    intro x hx;have hx':x.key∈(es.map (·.1)).map encZ:=by rw [<-hkeys];exact zaD.2 ⟨x,hx,rfl⟩
    obtain⟨n,hn,hxn⟩:=zaD.1 hx';refine⟨n,hn,hxn.symm,?_⟩;have hw:(Lit.int .i64 n).wf=true:=by
     obtain⟨e,he,rfl⟩:=zaD.1 hn;exact za0.1 hwf e he
    have hko:keyOf Tryz.prog 3 x.key=some (.int .i64 n):=by
     rw [<-hxn];simp [keyOf,mapKey,Tryz.underlying3,hw]
    exact Go.WideElems.rd_mk (R:=ad3) (key:=x.key) (val:=x.val) (born:=x.born) (yv:=(.lit (.bool true),[])) hko rfl
   have alN:(ces.toList.map (λx=> x.key)).Nodup:=by
    rw [hkeys];exact zb0.2 (hnd.imp λhab he=> hab (encZ_inj he))
   let D0:DataW Unit:=.map ((ces.toList.map (Go.WideElems.rg Tryz.prog 3 ad3)).foldr DataW.insert []);have hown:w.ownsMap Tryz.prog 3 ad3 bm ces.size D0:=⟨ces,dH,m1,⟨by rw [hsz];unfold maxLen;omega,⟨m4.1,m4.2,alN⟩,λx hx=> by
    obtain⟨n,_,_,h⟩:=hrd x hx;exact⟨_,h⟩⟩,zac _,rfl⟩
   have hik:(intKeys D0).Perm (es.map (·.1)):=by
    have p1:((ces.toList.map (Go.WideElems.rg Tryz.prog 3 ad3)).foldr DataW.insert []).Perm (ces.toList.map (Go.WideElems.rg Tryz.prog 3 ad3)):=Go.WideShapes.sorted_perm _;have p2:=p1.map λp=> Go.intOf p.1;refine p2.trans ?_;have:(ces.toList.map (Go.WideElems.rg Tryz.prog 3 ad3)).map (λp=> Go.intOf p.1)=es.map (·.1):=by
     rw [zcB];have hinj:∀a b:List Int,a.map encZ=b.map encZ->a=b:=λa b h=> by
      have:=congrArg (List.map λv:Value=> match v with | .int _ n=> n | _=> 0) h
      simpa [zcB,Function.comp_def,encZ] using this
     refine hinj _ _ ?_;rw [<-hkeys,zcB];refine zbd λx hx=> ?_;obtain⟨n,_,hxn,hr⟩:=hrd x hx;simp only [Function.comp_apply,Go.WideElems.rg_of hr,Go.intOf,hxn]
    rw [this]
   have hms:Maps.size D0=es.length:=by
    show((ces.toList.map _).foldr DataW.insert []).length=_;rw [(Go.WideShapes.sorted_perm _).length_eq,zay,Array.length_toList,hsz]
   have hbl:b < w.heap.size:=(zbp.1 o1).1;obtain rfl:f=239:=by
    simp only [Gi,zai,zaK,or_false] at hk;rcases hk with hk | hk
    ·exact hk
    ·exact absurd hk hf0
   have hseq:SeqGives Fence.wide 2 Tryz.prog 239 #[.pointer (some ⟨b,0,none⟩)] encZ (λss=> ss.Perm (intKeys D0)) (Maps.size D0) w:=
    AnyZI.keys_gives (ρ:=Tryz.keysA_ren) { Tryz.keysA with } Fence.wide _ trivial rfl (by omega) b bm _ D0 w hbl o8 hown
   have cS:=AnyZI.sorted_in Tryz.sortedA Fence.wide 5 trivial trivial trivial trivial rfl (by omega) (Xb _) (enters_of Tryz.func73 (by kernel_rfl) rfl) 239 #[.pointer (some ⟨b,0,none⟩)] trivial (enters_of Tryz.func239 (by kernel_rfl) rfl) _ _ (by rw [hms];unfold maxLen;omega) (by rw [hms];omega) _ hseq;refine((callsIn_wide (n:=5)).1 cS).mono λe w' ⟨v,ss,he,hp,hrow,hnil,hB⟩=> ?_;obtain⟨r1,r2⟩:=wW R hB;have hpp:=hp.trans hik;refine⟨v,ρ,he,r1,?_,r2⟩;unfold acW;split
   ·rename_i hz;rw [hz] at hpp;have:=hnil.2 hpp.eq_nil;subst this;simp only [acV,RV]
   ·rename_i hz;have hlen2:ss.length=(es.map (·.1)).length:=hpp.length_eq;rw [mergeSort_of_perm_i hpp] at hrow;have hml:((es.map (·.1)).mergeSort leI).length=(es.map (·.1)).length:=List.length_mergeSort _;have:=ahY R hB (zs:=(es.map (·.1)).mergeSort leI) (λh=> hz (by
     rw [h] at hml;exact zan hml.symm)) (by rw [hml,<-hlen2];exact hrow)
    rw [hml] at this;exact this
  ·have hg:H'.gen r=g:=by simp [ah.gen,hr,eP.gen]
   obtain⟨b,sh,h7,rfl⟩:=h6 hg;have ru:=R.obj r b sh h7;simp only [uZ,hr] at ru;obtain⟨cs,e,o1,o2,o3,o4⟩:=ru;obtain⟨o5,rfl,o7⟩:=o4.1 hty;simp only [RVc] at o3;obtain⟨⟨mv,o8,o9⟩,_⟩:=o3;simp only [RV] at o9;subst o9;have hbl:b < w.heap.size:=(zbp.1 o1).1;obtain rfl:f=87:=by simp only [zU,zai,zaK,or_false] at hv;rcases hv with hv | hv;exact hv;exact absurd hv hf0
   have hseq:SeqGives Fence.wide 2 Tryz.prog 87 #[.pointer (some ⟨b,0,none⟩)] encZ (λss:List Int=> ss=[]) 0 w:=λl J W hW hJ _ h0=> (O4 Fence.wide 2 trivial rfl l b J W ((hW.cell (p:=⟨b,0,none⟩) hbl).trans o8) h0).mono λe W' ⟨he,hj⟩=> ⟨he,[],rfl,hj⟩
   have cS:=AnyZI.sorted_in Tryz.sortedA Fence.wide 5 trivial trivial trivial trivial rfl (by omega) (Xb _) (enters_of Tryz.func73 (by kernel_rfl) rfl) 87 #[.pointer (some ⟨b,0,none⟩)] trivial (enters_of Tryz.func87 (by kernel_rfl) rfl) _ 0 (zaR _) (by omega) _ hseq;refine((callsIn_wide (n:=5)).1 cS).mono λe w' ⟨v,ss,he,hp,hrow,hnil,hB⟩=> ?_;obtain⟨r1,r2⟩:=wW R hB;have:=hnil.2 hp;subst this;exact⟨_,ρ,he,r1,by simp only [acV,RV],r2⟩
open Go.RowKit
theorem ad4:∀x∈ac7,Qv x.1 x.2:=by
 unfold ac7;refine zbZ.2 ⟨O5,?_⟩;refine zbZ.2 ⟨ac8 _,?_⟩;refine zbZ.2 ⟨OZ,?_⟩;refine zbZ.2 ⟨ac8 _,?_⟩;refine zbZ.2 ⟨ac8 _,?_⟩;refine zbZ.2 ⟨⟨λf args H v H' h=> ?_,λargs H v H' h=> (by cases h)⟩,λx hx=> (by cases hx)⟩;simp only at h;split at h <;> cases h
theorem Gt {α:Type}{f:Nat}{p:α}:∀{l:List (Nat × α)},l.lookup f=some p->(f,p)∈l
 | [],h=> by cases h
 | (k,q)::l,h=> by
  rw [List.lookup_cons] at h;split at h
  ·rename_i e;cases h;rw [beq_iff_eq] at e;subst e;simp
  ·exact zaZ _ (Gt h)
theorem akx:SA Tryz.prog pol:=λf p h=> ad4 (f,p) (Gt h)
open Go.ChangeShapes Go.WideShapes Go.ChangeAt Go.RowKit
theorem aky:SA Tryz.prog pol:=
 akx
theorem alO {w:World}:XY ρ0 w:=⟨λb hb=> (by cases hb),trivial⟩
theorem akz:ownKnob Tryz.prog.godebug=none:=by kernel_rfl
theorem ahZ:laidOutB Tryz.prog=true:=by kernel_rfl
theorem ad5:Tryz.prog.follows .mixedOrders=true:=by kernel_rfl
theorem Zt:Tryz.prog.cellTypes Tryz.prog.depth 24=some [3,3,3,3,3,3,3,22,22,22,22,22]:=by kernel_rfl
set_option maxRecDepth 100000 in
theorem ah0 {H:Type}{enc:TypeId × Value->H}{W:World}{r:Reach}{b0 base:Nat}{sp:Nat->Bool}{held:Bool}{v:Value}{d:DataW H}{ps:List MemPlace}(hval:Value.okWide Tryz.prog W r b0 24 v)(h:DataW.Trod enc Tryz.prog W base sp held 24 v d ps):
  ∃(s:jA) (zi zw zk za zv:List Int),RV ρ0 G0 W (.agg s.cells) v/\s.Ok zi zw zk za zv:=
 SK Tryz.underlying24 Zt (by kernel_rfl) (by kernel_rfl) Tryz.underlying3 (by kernel_rfl) Tryz.underlying22 (by kernel_rfl) Tryz.underlying3 (by kernel_rfl) hval h
section
variable {b:Nat}{H:ah}{g:bJ}{q d tt:Nat}{c:Cfg}{me:Int}{h:Home}
theorem uY.sub {g':bJ}(N:uY g q d tt c me h)(hs:MO g g'):uY g' q d tt c me h:=⟨hs _ _ N.1,hs _ _ N.2.1,hs _ _ N.2.2⟩
def wz(g:bJ)(d tt:Nat)(c:Cfg)(h:Home):bJ:=upd (upd g d (Gm c h.dF)) tt (uX h.aT)
theorem uY.ne(N:uY g q d tt c me h):q≠d/\q≠tt/\d≠tt:=by
 refine⟨λe=> ?_,λe=> ?_,λe=> ?_⟩
 ·have h1:=N.1;have h2:=N.2.1;subst e;rw [h1] at h2;have:=congrArg List.length (zaT h2);simp [ET,Gm,Cfg.av] at this
 ·have h1:=N.1;have h2:=N.2.2;subst e;rw [h1] at h2;have:=congrArg List.length (zaT h2);simp [ET,uX,Cfg.av] at this
 ·have h1:=N.2.1;have h2:=N.2.2;subst e;rw [h1] at h2;have:=congrArg List.length (zaT h2);simp [Gm,uX,Cfg.av] at this
theorem uY.aiG(N:uY g q d tt c me h)(h':Home):uY (wz g d tt c h') q d tt c me h':=by
 obtain⟨n1,n2,n3⟩:=N.ne;exact⟨by unfold wz;rw [bP n2,bP n1];exact N.1,by unfold wz;rw [bP n3,aY],by unfold wz;rw [aY]⟩
end
def Off(S:Nat->Prop)(g g':bJ):Prop:=∀q,¬S q->g' q=g q
theorem Off.refl(S:Nat->Prop)(g:bJ):Off S g g:=λ_ _=> rfl
theorem Off.trans {S:Nat->Prop}{g g' g'':bJ}(h:Off S g g')(h':Off S g' g''):Off S g g'':=λq hq=> (h' q hq).trans (h q hq)
theorem Off.upd {S:Nat->Prop}{g:bJ}{q:Nat}{cs:List Cell}(h:S q):Off S g (upd g q cs):=λx hx=> by
 rw [bP];intro e;subst e;exact hx h
theorem Off.mono {S T:Nat->Prop}{g g':bJ}(h:Off S g g')(hs:∀q,S q->T q):Off T g g':=λq hq=> h q λh'=> hq (hs q h')
def Xc(P:Nat->Nat->Nat)(n:Nat)(q:Nat):Prop:=∃i s,i < n/\s < 4/\q=P i s
def Tz(p:Port):Nat->List Pkt
 | 0=> p.rq
 | 1=> p.rin
 | 2=> p.an
 | _=> p.ain
def X4(c:Cfg):Nat->Int
 | 0=> c.out
 | 1=> c.inn
 | 2=> c.out
 | _=> 1
def oIx(req:Bool):Nat:=if req then 0 else 2
def iIx(req:Bool):Nat:=if req then 1 else 3
theorem oq {g:bJ}{a:Nat->Nat}{c:Cfg}{p:Port}(h:rH g a c p):∀{s:Nat},s < 4->g (a s)=some (Aq (Tz p s) (X4 c s)):=λ{s} hs=> by
 obtain⟨h0,h1,h2,h3⟩:=h
 match s,hs with
 | 0,_=> exact h0
 | 1,_=> exact h1
 | 2,_=> exact h2
 | 3,_=> exact h3
theorem LJ {g:bJ}{a:Nat->Nat}{c:Cfg}{p:Port}(h:∀s,s < 4->g (a s)=some (Aq (Tz p s) (X4 c s))):rH g a c p:=
 ⟨h 0 (by decide),h 1 (by decide),h 2 (by decide),h 3 (by decide)⟩
theorem BH(p:Port)(req:Bool):Tz p (oIx req)=p.sort req:=by cases req <;> rfl
theorem xQ(c:Cfg)(req:Bool):X4 c (oIx req)=c.out:=by cases req <;> rfl
theorem Gu(req:Bool):oIx req < 4:=by cases req <;> decide
theorem O6(p:Port)(req:Bool)(l:List Pkt)(s:Nat)(hs:s < 4):Tz (p.lF req l) s=if s=oIx req then l else Tz p s:=by
 match s,hs with
 | 0,_=> cases req <;> rfl
 | 1,_=> cases req <;> rfl
 | 2,_=> cases req <;> rfl
 | 3,_=> cases req <;> rfl
section
variable {b:Nat}{H:ah}{g:bJ}{f:Nat}{P:Nat->Nat->Nat}{c:Cfg}{fab:Fab}
theorem mZ.sub {g':bJ}(F:mZ g f P c fab)(hs:MO g g'):mZ g' f P c fab:=
 ⟨hs _ _ F.1,λi p hp=> by obtain⟨a,b,c,d⟩:=F.2.1 i p hp;exact⟨hs _ _ a,hs _ _ b,hs _ _ c,hs _ _ d⟩,F.2.2⟩
theorem mZ.fne(F:mZ g f P c fab){i s:Nat}(hi:i < fab.l.length)(hs:s < 4):f≠P i s:=λe=> by
 have h1:=F.1;have h2:=oq (F.port hi) hs;rw [<-e,h1] at h2;have:=congrArg List.length (zaT h2);simp [Zb,Aq] at this
theorem mZ.fill(F:mZ g f P c fab)(J:adO P fab.l.length){i s:Nat}(hi:i < fab.l.length)(hs:s < 4){p':Port}{l:List Pkt}(hp:∀t,t < 4->Tz p' t=if t=s then l else Tz (fab.port i) t):
  mZ (upd g (P i s) (Aq l (X4 c s))) f P c (fab.put i p'):=by
 have hlen:(fab.put i p').l.length=fab.l.length:=by simp [Fab.put]
 refine⟨by rw [hlen,bP (F.fne hi hs)];exact F.1,λj p hj=> ?_,F.2.2⟩;simp only [Fab.put,zao] at hj;have hjl:j < fab.l.length:=by have:=(zah.1 hj).1;simpa using this
 by_cases hij:i=j
 ·subst hij;rw [zba hi] at hj;cases hj;refine LJ λt ht=> ?_;rw [hp t ht];by_cases hts:t=s
  ·subst hts;rw [if_pos rfl,aY]
  ·rw [if_neg hts,bP (λe=> hts (J _ _ _ _ hi hi ht hs e).2)];exact oq (F.port hi) ht
 ·rw [zbg hij] at hj;refine LJ λt ht=> ?_;rw [bP (λe=> hij (J _ _ _ _ hjl hi ht hs e).1.symm)];have:=oq (F.2.1 j p hj) ht;exact this
theorem Xd {i:Int}(hi:fab.is i=true):∃n:Nat,i=n/\n < fab.l.length:=by
 simp only [Fab.is,zae,decide_eq_true_eq] at hi;exact⟨i.toNat,by omega,by omega⟩
def aeD(a:Nat->Nat)(req:Bool):List AV:=[.ref (a (oIx req)) 0 0,.ref (a (iIx req)) 0 0]
theorem Zu(H:ah)(hb:H.base<=H.next)(a:Nat->Nat)(req:Bool):∃H',cl 91 [.agg (wu a),B req] H=some (.agg (aeD a req),H')/\Made H H' mM:=by
 refine aaY rfl rfl (akf _ _ _ _) ?_;have ap:(wu a).all AV.aJ=true:=rfl;cases req with
 | true=>
  refine⟨(H.new (.blk 0 142 (wu a))).new (.blk 0 121 (aeD a true)),?_,((Made.refl hb).new _).new _⟩;simp only [Nat.reduceLT,Nat.reduceAdd,aP,xq_,hq_,adt,wu,aeD,oIx,iIx,aO,hb]
 | false=>
  refine⟨(H.new (.blk 0 142 (wu a))).new (.blk 0 121 (aeD a false)),?_,((Made.refl hb).new _).new _⟩;simp only [Nat.reduceLT,Nat.reduceAdd,aP,xq_,hq_,adt,wu,aeD,oIx,iIx,aO,hb]
theorem Xe(G:Good b H g)(F:mZ g f P c fab){i:Nat}(hi:i < fab.l.length):∃x r gg o,ld (.ref f 0 0) H=some (x,H)/\ix 4 x (I i) H=some (.ref r gg o,H)/\lda 4 (.ref r gg o) H=some (.agg (wu (P i)),H):=by
 obtain⟨x,hx,cu⟩:=G.seq F.1 (i:=0) rfl;obtain⟨r,gg,o,a1,_,a3⟩:=cu.elemAt (by decide) (Jd P _) hi;have hr:(List.range fab.l.length)[i]?=some i:=zbr hi;have:=Ih (enc:=λi=> wu (P i)) (m:=4) (λ_=> rfl) (List.range fab.l.length) i i hr;rw [this] at a3;exact⟨x,r,gg,o,hx,a1 .i64,a3⟩
structure FOk(c:Cfg)(fab:Fab):Prop where
 ok:c.ok=true
 len:fab.l.length < 1000
 box:∀p∈fab.l,∀s,s < 4->((Tz p s).length:Int)<=X4 c s
 dat:∀p∈fab.l,∀s,s < 4->∀q∈Tz p s,q.data.length < 1000000000
theorem Xf {c:Cfg}(h:c.ok=true)(s:Nat):0<=X4 c s/\X4 c s < 1000:=by
 have B:=uo h;have:=B.out;have:=B.inn;unfold X4;split <;> omega
theorem FOk.small {c:Cfg}{fab:Fab}(K:FOk c fab){p:Port}(hp:p∈fab.l){s:Nat}(hs:s < 4):(Tz p s).length < 1000:=by
 have:=K.box p hp s hs;have:=(Xf K.ok s).2;omega
theorem Fab.Rf {fab:Fab}{i:Nat}(hi:i < fab.l.length):fab.port i∈fab.l:=by
 unfold Fab.port;rw [zao,zaq,zab hi];exact zcU hi
theorem ad6(G:Good b H g)(hb:H.base<=b)(F:mZ g f P c fab)(J:adO P fab.l.length)(K:FOk c fab)(p:Pkt)(hl:p.data.length < 1000000000):
  ∃H' g',cl 143 [.ref f 0 0,.agg p.av] H=some (I (fab.send p).2,H')/\Good b H' g'/\mZ g' f P c (fab.send p).1/\Off (Xc P fab.l.length) g g'/\Step b H H':=by
 have hb0:H.base<=H.next:=zaC hb G.1
 let H1:=H.new (.blk 0 81 p.av);have G1:Good b H1 g:=G.new _;have ck:=WV H1 p;have e1:=QX G1 F K.len p.src;have e2:=QX G1 F K.len p.dst;by_cases hbad:(!p.ok || !fab.is p.src || !fab.is p.dst)=true
 ·have hp:fab.send p=(fab,1):=by simp only [Fab.send];rw [if_pos hbad]
  rw [hp];refine⟨H1,g,dU rfl rfl (abq _ _ _ _ ?_),G1,F,Off.refl _ _,Step.new _ G.1⟩;simp only [H1] at ck e1 e2 ⊢;have f1:p.av[1]?=some (I p.src):=rfl;have f2:p.av[2]?=some (I p.dst):=rfl;cases hok:p.ok with
  | false=>
   rw [hok] at ck;simp only [Nat.reduceLT,Int.reduceEq,xq_,hq_,KY,aO (oW p),ck,zaB]
  | true=>
   rw [hok] at ck hbad;cases hs:fab.is p.src with
   | false=>
    rw [hs] at e1;simp only [Nat.reduceLT,xq_,hq_,KY,aO (oW p),ck,zar,f1,e1,zaB]
   | true=>
    rw [hs] at e1 hbad;have hd:fab.is p.dst=false:=by simpa using hbad
    rw [hd] at e2;simp only [Nat.reduceLT,xq_,hq_,KY,aO (oW p),ck,zar,f1,f2,e1,e2,zaB]
 ·have hcond:p.ok=true/\fab.is p.src=true/\fab.is p.dst=true:=by
   cases h1:p.ok <;> cases h2:fab.is p.src <;> cases h3:fab.is p.dst <;> simp_all
  obtain⟨hok,hs,hd⟩:=hcond;rw [hok] at ck;rw [hs] at e1;rw [hd] at e2;obtain⟨n,hsn,hn⟩:=Xd hs;obtain⟨x,r,gg,o,h1,h2,h3⟩:=Xe G1 F hn;let req:=wQ p.aS;have rq:=Tq H1.guard p.aS;obtain⟨K1',s1,s2⟩:=Zu H1.guard (zac _) (P n) req;obtain⟨K1,s1,s2⟩:=drawn s1 s2;have G2:Good b K1 g:=G1.ext s2.next s2.same
  have hbx:=oq (F.port hn) (Gu req);have hbK:K1.base<=b:=by rw [s2.base];exact hb
  obtain⟨H',q1,q2,q3⟩:=ady G2 hbK hbx (Xf K.ok _).1 (Xf K.ok _).2 (K.small (Fab.Rf hn) (Gu req)) p hl;have g1:K1.get H.next=.blk 0 81 p.av:=by rw [s2.same _ (by simp only [H1,fC];omega)];exact aK rfl
  have l9:lda 9 (.ref H.next 0 0) K1=some (.agg p.av,K1):=by
   rw [jw (off:=0) (n:=9) g1 (by rw [pX];exact zac _),zaM,Qn]
  rw [BH,xQ] at q1;have hout:fab.out=c.out:=F.2.2.1;have hle:=K.box _ (Fab.Rf hn) _ (Gu req);rw [BH,xQ] at hle;have f0:p.av[0]?=some (I p.aS):=rfl;have f1:p.av[1]?=some (I p.src):=rfl;have f2:p.av[2]?=some (I p.dst):=rfl;have l0:(aeD (P n) req)[0]?=some (.ref (P n (oIx req)) 0 0):=rfl;have run:∀v,cl 197 [.ref (P n (oIx req)) 0 0,.agg p.av] K1=some (v,H')->cl 143 [.ref f 0 0,.agg p.av] H=some (v,H'):=λv q1=> by
   refine dU rfl rfl (abq _ _ _ _ ?_);rw [hsn] at f1 e1;simp only [H1,req] at ck e1 e2 rq h1 h2 h3 s1 l0 q1;simp only [Nat.reduceLT,xq_,hq_,KY,aO (oW p),ck,zar,f0,f1,f2,e1,e2,h1,h2,h3,rq,s1,l0,l9,q1]
  have st0:Step b H K1:=(Step.new _ G.1).trans ⟨s2.base,s2.next,λr hr=> s2.same r (zaw hr G1.1)⟩;have hset:Off (Xc P fab.l.length) g (upd g (P n (oIx req)) (Aq (if X4 c (oIx req)=((Tz (fab.port n) (oIx req)).length:Int) then Tz (fab.port n) (oIx req) else Tz (fab.port n) (oIx req)++[p]) (X4 c (oIx req)))):=Off.upd ⟨n,oIx req,hn,Gu req,rfl⟩;rw [BH,xQ] at q2 hset;by_cases hfull:c.out=(((fab.port n).sort req).length:Int)
  ·have hp:fab.send p=(fab,5):=by
    simp only [Fab.send];rw [if_neg hbad,hsn,hout,if_pos (Int.le_of_eq hfull)]
   rw [if_pos hfull] at q1 q2 hset;rw [aay (by rw [oq (F.port hn) (Gu req),BH,xQ])] at q2;rw [hp];exact⟨H',g,run _ q1,q2,F,Off.refl _ _,st0.trans q3⟩
  ·have hp:fab.send p=(fab.put n ((fab.port n).lF req ((fab.port n).sort req++[p])),0):=by
    simp only [Fab.send];rw [if_neg hbad,hsn,hout,if_neg (λh=> hfull (Int.le_antisymm h hle))]
   rw [if_neg hfull] at q1 q2 hset;rw [hp];refine⟨H',_,run _ q1,q2,?_,hset,st0.trans q3⟩;have:=F.fill J hn (Gu req) (p':=(fab.port n).lF req ((fab.port n).sort req++[p])) (l:=(fab.port n).sort req++[p]) (O6 _ _ _);rw [xQ] at this;exact this
end
theorem ah1 {β:Type}{r gg o:Nat}{H H':ah}{k:Option β}(h:H'.get r=H.get r):ck (dO (.ref r gg o)) H H' k=k:=adS λx hx=> by
 simp only [dO,zaa] at hx;subst hx;exact h
abbrev Lcl:=Nat->Option (List AV)
def Rh(ls:Lcl)(r:Nat)(xs:List AV):Lcl:=λx=> if x=r then some xs else ls x
def noL:Lcl:=λ_=> none
def lay(g:bJ)(ls:Lcl):bJ:=λq=> match ls q with
 | some xs=> some (xs.map Cell.av)
 | none=> g q
structure Loc(b:Nat)(K:ah)(g:bJ)(ls:Lcl):Prop where
 good:Good b K (lay g ls)
 free:∀r,ls r≠none->g r=none
section
variable {b:Nat}{K:ah}{g:bJ}{ls:Lcl}{r q:Nat}{xs:List AV}
theorem xR:Rh ls r xs r=some xs:=by simp [Rh]
theorem Xg {x:Nat}(h:x≠r):Rh ls r xs x=ls x:=by simp [Rh,h]
theorem Xh:lay g (Rh ls r xs)=upd (lay g ls) r (xs.map Cell.av):=by
 funext x
 simp only [lay,Rh,upd];by_cases h:x=r
 ·simp [h]
 ·simp [h]
theorem Jg {cs:List Cell}(h:ls q=none):lay (upd g q cs) ls=upd (lay g ls) q cs:=by
 funext x
 simp only [lay,upd];by_cases hx:x=q
 ·subst hx;simp [h]
 ·simp [hx]
theorem Loc.of(G:Good b K g):Loc b K g noL:=⟨G,λ_ h=> absurd rfl h⟩
theorem Loc.out(L:Loc b K g ls):Good b K g:=L.good.sub λq cs h=> by
 unfold lay;cases hl:ls q with
 | none=> exact h
 | some xs=> rw [L.free q (by rw [hl];simp)] at h;cases h
theorem Loc.new(L:Loc b K g ls)(o:eP):Loc b (K.new o) g ls:=⟨L.good.new o,L.free⟩
theorem Loc.newL(L:Loc b K g ls){ty:TypeId}(hc:xs.all AV.aJ=true)(hr:r=K.next)(ht:ty < gB:=by decide):Loc b (K.new (.blk 0 ty xs)) g (Rh ls r xs):=by
 subst hr;refine⟨by rw [Xh];exact L.good.newObj hc ht,λx hx=> ?_⟩;by_cases h:x=K.next
 ·rw [h];exact L.out.isNone (zac _)
 ·rw [Xg h] at hx;exact L.free x hx
theorem LK(h:ls r=some xs):lay g ls r=some (xs.map Cell.av):=by simp [lay,h]
theorem Loc.at_(L:Loc b K g ls){cs:List Cell}(h:g q=some cs):lay g ls q=some cs/\ls q=none:=by
 cases hl:ls q with
 | none=> exact⟨by simp [lay,hl,h],rfl⟩
 | some xs=> rw [L.free q (by rw [hl];simp)] at h;cases h
theorem Loc.obj(L:Loc b K g ls){cs:List Cell}(h:g q=some cs):lay g ls q=some cs:=(L.at_ h).1
theorem Loc.ld(L:Loc b K g ls)(h:ls r=some xs){i:Nat}{v:AV}(hi:xs[i]?=some v):ld (.ref r 0 i) K=some (v,K):=
 L.good.load (LK h) (i:=i) (x:=v) (by rw [zas,hi];rfl)
theorem Loc.lda(L:Loc b K g ls)(h:ls r=some xs){i n:Nat}{ys:List AV}(hi:(xs.drop i).take n=ys)(hn:ys.length=n)(hp:0 < n):lda n (.ref r 0 i) K=some (.agg ys,K):=
 L.good.loads (LK h) (i:=i) (n:=n) (xs:=ys) (by rw [<-hi,zcm,zdi]) hn hp
theorem TA {i:Nat}{vs:List AV}:wO (xs.map Cell.av) i vs=(aP xs i vs).map Cell.av:=by
 simp only [wO,aP,zbb,zcm,zdi]
theorem Loc.aiG(L:Loc b K g ls)(h:ls r=some xs){K':ah}{ys:List AV}(G:Good b K' (upd (lay g ls) r (ys.map Cell.av))):Loc b K' g (Rh ls r ys):=by
 refine⟨by rw [Xh];exact G,λx hx=> ?_⟩;by_cases e:x=r
 ·subst e;exact L.free x (by rw [h];simp)
 ·rw [Xg e] at hx;exact L.free x hx
theorem Loc.st(L:Loc b K g ls)(hb:K.base<=b)(h:ls r=some xs){i:Nat}{v:AV}(hi:i < xs.length)(hv:One v):∃K',st 1 (.ref r 0 i) v K=some (aV,K')/\Loc b K' g (Rh ls r (xs.set i v))/\Step b K K':=by
 obtain⟨K',t1,t2,t3,t4⟩:=L.good.store hb (LK h) (i:=i) (by simpa using hi) hv;rw [<-List.map_set] at t2;exact⟨K',t1,L.aiG h t2,t3⟩
theorem Loc.sta(L:Loc b K g ls)(hb:K.base<=b)(h:ls r=some xs){i n:Nat}{vs:List AV}(hi:i+n<=xs.length)(hn:vs.length=n)(hv:vs.all AV.aJ=true):∃K',Proofs.YtgplhpgkompkmaaGreat.st n (.ref r 0 i) (.agg vs) K=some (aV,K')/\Loc b K' g (Rh ls r (aP xs i vs))/\Step b K K':=by
 obtain⟨K',t1,t2,t3,t4⟩:=L.good.stores hb (LK h) (i:=i) (by simpa using hi) hn hv;rw [TA] at t2;exact⟨K',t1,L.aiG h t2,t3⟩
theorem Xi {vs:List AV}(h:vs.length=xs.length):aP xs 0 vs=vs:=by
 unfold aP;rw [zdc,zaS,za4,zaJ (by omega),za7]
theorem Loc.whole(L:Loc b K g ls)(hb:K.base<=b)(h:ls r=some xs){n:Nat}{vs:List AV}(hx:xs.length=n)(hn:vs.length=n)(hp:0 < n)(hv:vs.all AV.aJ=true):∃K',Proofs.YtgplhpgkompkmaaGreat.st n (.ref r 0 0) (.agg vs) K=some (aV,K')/\Proofs.YtgplhpgkompkmaaGreat.lda n (.ref r 0 0) K'=some (.agg vs,K')/\Loc b K' g (Rh ls r vs)/\Step b K K':=by
 obtain⟨K',t1,t2,t3⟩:=L.sta hb h (i:=0) (n:=n) (vs:=vs) (by omega) hn hv;rw [Xi (by omega)] at t2;exact⟨K',t1,t2.lda xR (i:=0) (n:=n) (by rw [zaM,zau (by omega)]) hn hp,t2,t3⟩
theorem Loc.call(L:Loc b K g ls){cs0 cs:List Cell}(hq:g q=some cs0){K':ah}(G:Good b K' (upd (lay g ls) q cs)):Loc b K' (upd g q cs) ls:=by
 obtain⟨h1,h2⟩:=L.at_ hq;refine⟨by rw [Jg h2];exact G,λr hr=> ?_⟩;have hne:r≠q:=λe=> by subst e;exact hr h2
 rw [bP hne];exact L.free r hr
theorem Good.exact {b:Nat}{K:ah}{g:bJ}{r:Nat}{xs:List AV}(G:Good b K g)(h:g r=some (xs.map Cell.av)):∃ty,K.get r=.blk 0 ty xs/\ty < gB:=by
 obtain⟨_,τ,hR⟩:=G;have R:=hR r _ h;obtain⟨ty,ys,h1,h2,h3,h4⟩:=R.blk;have:ys=xs:=by
  apply zbD
  intro i;rcases zaP i xs.length with hi | hi
  ·have hx:ys[i]?=some (ys[i]'(by simp at h2;omega)):=zab _;have:=h4 i (.av xs[i]) _ (by simp [hi]) hx;simp only [CR] at this;rw [hx,this];simp [hi]
  ·rw [zaN (by simp at h2;omega),zaN hi]
 subst this;exact⟨ty,h1,R.tyl _ _ _ h1⟩
end
structure COk(ca:Cache):Prop where
 len:ca.l.length < 1000000
 sets:1<=ca.sets
 clk:0<=ca.dH/\ca.dH < 1000000000
 dat:∀e∈ca.l,e.data.length < 1000000000
 used:∀e∈ca.l,0<=e.used/\e.used < 1000000000
theorem Ri {n r gg i:Nat}{v u:AV}{K K':ah}(h:st n (.ref r gg i) v K=some (u,K')){x:Nat}(hx:x≠r):K'.get x=K.get x:=by
 unfold st at h;simp only at h;cases hr:K.get r with
 | map k es=> rw [hr] at h;cases h
 | blk g' ty cells=>
  rw [hr] at h;simp only at h;split at h
  ·simp only [zaa,zad] at h;rw [<-h.2,eF,if_neg hx]
  ·cases h
section
variable {b:Nat}{H:ah}{g:bJ}{q:Nat}{ca:Cache}
theorem Loc.ext {K K':ah}{ls:Lcl}(L:Loc b K g ls)(M:Made K K' mM):Loc b K' g ls:=⟨L.good.ext M.next M.same,L.free⟩
end
section
variable {b:Nat}{H:ah}{g:bJ}{q:Nat}
theorem ad7(G:Good b H g)(hb:H.base<=b){p:Proc}(h:g q=some (ES p))(h1:p.ops.length < 1000)(h2:p.bf.length < 1000)(hv:p.bf.length<=p.ops.length):
  ∃H',cl 136 [.ref q 0 0] H=some (.tup [.agg p.op.av,I p.idx,B p.cur.isSome],H')/\Good b H' g/\Step b H H':=by
 refine aaY rfl rfl (ahb _ _ _) ?_;have L:=(Loc.of G).newL (ty:=61) (xs:=[zI,zI,zI]) (r:=H.next) rfl rfl;have s1:Step b H _:=Step.new (.blk 0 61 [zI,zI,zI]) G.1;have el:=Zd L.good (L.obj h) h1 h2;have hbK:(H.new (.blk 0 61 [zI,zI,zI])).base<=b:=by rw [oD];exact hb
 have hz:Opn.zero.av=[zI,zI,zI]:=rfl;by_cases hl:p.left=0
 ·have hc:p.cur=none:=by
   unfold Proc.cur;unfold Proc.left at hl;exact zaN (by omega)
  obtain⟨K,t1,t2,t3,t4⟩:=L.whole hbK xR (n:=3) (vs:=[zI,zI,zI]) rfl rfl (by decide) rfl;have ez:bd 61 []=some (.agg [zI,zI,zI]):=by simp only [xq_,YG,lD,nS]
  refine⟨K,?_,t3.out,s1.trans t4⟩;rw [hl] at el;have hi:p.idx=0:=by simp [Proc.idx,hc]
  have ho:p.op.av=[zI,zI,zI]:=by simp only [Proc.op,hc,zcl];exact hz
  simp only [xq_,VY,el,ez,t1,t2,hi,ho,hc,zbI]
 ·have hlt:p.bf.length < p.ops.length:=by unfold Proc.left at hl;omega
  obtain⟨o,ho⟩:∃o,p.ops[p.bf.length]?=some o:=⟨_,zab hlt⟩
  have hc:p.cur=some o:=ho;have l0:=L.good.load (L.obj h) (i:=0) (x:=vsl 3 Opn.av p.ops) rfl;obtain⟨x,hx,c⟩:=L.good.seq (L.obj h) (i:=1) rfl;have e2:=(c.is (n:=p.bf.length) (by decide) (by simp)).lnS;have hs:=Qm dR (H.new (.blk 0 61 [zI,zI,zI])) p.ops;have e3:=hs.ix (k:=.i64) (i:=(p.bf.length:Int)) (by omega) (by omega);rw [zao] at e3;have e4:=xI dR hs ho;obtain⟨K,t1,t2,t3,t4⟩:=L.whole hbK xR (n:=3) (vs:=o.av) rfl (dR _) (by decide) (qR _);have c1:∀{β:Type} (k:Option β),ck (dO (.ref q 0 1)) (H.new (.blk 0 61 [zI,zI,zI])) K k=k:=λk=> ah1 (Ri t1 (by have:=G.lt h;omega));have c2:∀{β:Type} (k:Option β),ck (dO x) (H.new (.blk 0 61 [zI,zI,zI])) K k=k:=λk=> adS λr hr=> by
   refine Ri t1 ?_;obtain⟨c0,hx0,cx⟩:=G.seq h (i:=1) rfl;have hxx:x=c0:=by
    have:=(cx.new (.blk 0 61 [zI,zI,zI])).load;rw [this] at hx;simp only [zaa,zad] at hx;exact hx.1.symm
   subst hxx;rcases cx.length (n:=p.bf.length) (by decide) (by simp) with⟨rfl,_⟩ | ⟨r',gg,off,cap,ex,ty,all,rfl,q1,q2,q3,_⟩
   ·cases hr
   ·simp only [dO,zaa] at hr;omega
  refine⟨K,?_,t3.out,s1.trans t4⟩;have hi:p.idx=p.bf.length:=by simp [Proc.idx,hc]
  have hop:p.op=o:=by simp [Proc.op,hc]
  simp only [xq_,VY,el,hl,l0,hx,e2,e3,e4,t1,t2,c1,c2,hi,hop,hc,zct]
end
structure NS(c:Cfg)(me:Int)(n:Node)(r:iU):Prop where
 sim:aiB c me n r
 rok:(r.homes.aT.owner.map (·.1)).Nodup
 rge:∀o∈r.homes.aT.owner,0<=o.2
theorem NS.cs {c:Cfg}{me:Int}{n:Node}{r:iU}(S:NS c me n r):zO n.aC r.aC:=⟨S.sim.sets,S.sim.ways,S.sim.dH,S.sim.sorted,S.sim.perm⟩
theorem NS.hs {c:Cfg}{me:Int}{n:Node}{r:iU}(S:NS c me n r):IB c me n.home r.homes:=⟨S.sim.dF,S.sim.none,⟨S.sim.owner,S.sim.waits,S.rok,S.rge⟩⟩
structure alP(c:Cfg)(o:Opn):Prop where
 k1:1<=o.aS
 k4:o.aS<=4
 aj:c.bn o.addr=o.addr.tdiv c.aH
 lo:0<=c.bn o.addr
 hi:c.bn o.addr < c.aG
 word:c.bM o.addr=o.addr.tmod c.aH
 wlo:0<=c.bM o.addr
 whi:c.bM o.addr < c.aH
theorem aiH {c:Cfg}(hc:c.ok=true){o:Opn}(h:c.right o=true):alP c o:=by
 obtain⟨_,hl,hw,_⟩:=jY hc;unfold Cfg.right at h;simp only [zae,decide_eq_true_eq] at h;obtain⟨⟨⟨h1,h2⟩,h3⟩,_⟩:=h;have h4:¬(o.addr < 0∨c.fK<=o.addr):=λe=> h3 (by unfold Cfg.bn;rw [if_pos e]);simp only [not_or] at h4;have e1:c.bn o.addr=o.addr / c.aH:=by unfold Cfg.bn;rw [if_neg (by simp only [not_or];exact h4)]
 have e2:c.bM o.addr=o.addr % c.aH:=by unfold Cfg.bM;rw [if_neg (by simp only [not_or];exact h4)]
 have ha:o.addr < c.aG*c.aH:=by have:=h4.2;unfold Cfg.fK at this;omega
 refine⟨h1,h2,?_,?_,?_,?_,?_,?_⟩
 ·rw [e1,Int.tdiv_eq_ediv_of_nonneg (by omega)]
 ·rw [e1];exact zcv (by omega) (by omega)
 ·rw [e1];exact zc1 (by omega) ha
 ·rw [e2,zcd (by omega)]
 ·rw [e2];exact zbq _ (by omega)
 ·rw [e2];exact zbw _ (by omega)
theorem qW(e:Ent)(o:Opn)(w:Int):(dS e o w).aj=e.aj/\(dS e o w).used=e.used/\(dS e o w).bG=e.bG/\(dS e o w).data.length=e.data.length:=by
 unfold dS;split
 ·unfold Ent.write;split <;> simp
 ·split
  ·unfold Ent.write;split <;> simp
  ·simp
theorem TB {c:Cfg}{e:Ent}{o:Opn}{w:Int}(hd:mY c e.data)(ho:I64 o.value):mY c (dS e o w).data:=by
 refine⟨by rw [(qW e o w).2.2.2];exact hd.1,?_⟩;have key:∀v,I64 v->∀x∈(e.write w v).data,I64 x:=by
  intro v hv x hx;unfold Ent.write at hx;split at hx
  ·rcases zbG hx with h | h
   ·exact hd.2 x h
   ·rw [h];exact hv
  ·exact hd.2 x hx
 unfold dS;split
 ·exact key _ ho
 ·split
  ·exact key _ (afU _)
  ·exact hd.2
structure Eff(c:Cfg)(me:Int)(n:Node)(r:iU)(t:List Evn)(A:NT)(B:RNT):Prop where
 sim:zO A.1.aC B.1.aC
 rest:B.1={ r with aC:=B.1.aC,bf:=n.bW.bf++[A.2.getLast?.elim 0 (·.value)],eG:=false }
 akA:A.1={ n with aC:=A.1.aC,bW:=⟨n.bW.ops,n.bW.bf++[A.2.getLast?.elim 0 (·.value)],false⟩ }
 ev:B.2=A.2
 inv:DK c A.1.aC
 len:A.2.length=t.length+1
theorem Jh {ca:Cache}(hl:Lines ca.l){e:Ent}(h0:0<=e.aj)(hf:ca.full e.aj=false):∃u,(ca.put e).1.find e.aj=some { e with used:=u }:=by
 cases h:ca.find e.aj with
 | some x=>
  refine⟨x.used,?_⟩;rw [jX hl h0 h];obtain⟨hx,hxl⟩:=(fQ hl).1 h;unfold Cache.find;rw [fQ (xu hl λy _=> by
   split
   ·rename_i h;exact h.symm
   ·rfl)]
  exact⟨zaD.2 ⟨x,hx,by rw [if_pos hxl]⟩,rfl⟩
 | none=>
  refine⟨ca.dH+1,?_⟩;unfold Cache.put;rw [if_neg (by omega),vW.2 h];simp only [hf,zaj,if_false];unfold Cache.find;rw [zdl];have:(ca.l.find? λx=> decide (x.aj=e.aj))=none:=h;rw [this];simp
theorem Em(ca:Cache)(e:Ent):(ca.put e).1.dH<=ca.dH+1:=by
 unfold Cache.put;split
 ·simp only;omega
 ·split
  ·simp only;omega
  ·split <;> simp only <;> omega
theorem zf(ca:Cache)(aj:Int):(ca.drop aj).dH=ca.dH:=by
 unfold Cache.drop;split <;> rfl
theorem Aa(me:Int)(n:Node)(p:Pkt):n.after me p=zT n.aF me n.aC p:=rfl
theorem En {d:dL}{me:Int}{ca:Cache}{p:Pkt}(h:d.fits p=false):zT d me ca p=vP ca:=by
 have h1:iI d me ca p=vP ca:=by unfold iI;rw [if_pos (.inr h)]
 have h2:jy d me ca p=vP ca:=by unfold jy;rw [if_pos (.inr h)]
 have h3:kE d ca p=vP ca:=by unfold kE;rw [if_pos (.inr h)]
 unfold zT;rw [h1,h2,h3];split
 ·rfl
 ·split
  ·rfl
  ·split <;> rfl
theorem Xj {d:dL}{p:Pkt}(h:d.fits p=true):p.aS=Qp (KO d.step):=by
 unfold dL.fits at h;simp only [zae,decide_eq_true_eq] at h;exact h.1.1.2
structure Eo(c:Cfg)(d:dL)(ca:Cache)(d':dL)(ca':Cache):Prop where
 inv:DK c ca'
 aj:d'.aj=d.aj
 aS:d'.aS=d.aS
 dat:d'.data=[]∨mY c d'.data
 ac3:d'.aS=2->d'.step=3->mY c d'.data
 clk:ca'.dH<=ca.dH∨(d.aS≠3/\d'.step=6/\ca'.dH<=ca.dH+1)
 way:(d.step=6/\d'.step=0/\ca'=ca)∨(d'.step≠0/\d.step≠6/\(d.aS≠3->(d'.step≠6/\ca'=ca)∨(d'.step=6/\∃e,ca'.find d.aj=some e/\(d.aS=2->e.bG=true))))
theorem Rj {c:Cfg}{ca:Cache}(I:DK c ca){d:dL}{me:Int}(h0:0<=d.aj)(h1:d.aj < c.aG)(hf:ca.full d.aj=false)(hd:mY c d.data)(hk:d.aS=2)(hs:d.step≠6){d0:dL}(e1:d0.aj=d.aj)(e2:d0.aS=d.aS)(e3:d0.step≠6):
  Eo c d0 ca (fZ d me ca).2 (fZ d me ca).1:=by
 have key:∀d':dL,d'.aj=d.aj->d'.aS=d.aS->d'.data=d.data->Eo c d0 ca (if d'.next≠-1 then(ca,{ d' with step:=3 }) else((ca.put ⟨-1,-1,d'.aj,0,true,d'.data⟩).1,{ d' with step:=6,aW:=2,head:=me,data:=[] })).2 (if d'.next≠-1 then(ca,{ d' with step:=3 }) else((ca.put ⟨-1,-1,d'.aj,0,true,d'.data⟩).1,{ d' with step:=6,aW:=2,head:=me,data:=[] })).1:=by
  intro d' l1 l2 l3;by_cases h:d'.next≠-1
  ·rw [if_pos h];exact⟨I,by rw [e1];exact l1,by rw [e2];exact l2,.inr (by simp only [l3];exact hd),λ_ _=> by simp only [l3];exact hd,.inl (zbe _),.inr ⟨by simp,e3,λ_=> .inl ⟨by simp,rfl⟩⟩⟩
  ·rw [if_neg h];obtain⟨u,hu⟩:=Jh I.aG (e:=⟨-1,-1,d'.aj,0,true,d'.data⟩) (by simp only [l1];exact h0) (by simp only [l1];exact hf);have hu':(ca.put ⟨-1,-1,d'.aj,0,true,d'.data⟩).1.find d0.aj=some ⟨-1,-1,d'.aj,u,true,d'.data⟩:=by
    rw [e1,<-l1];exact hu
   exact⟨I.put (by simp only [l1];exact h0) (by simp only [l1];exact h1) (by simp only [l3];exact hd),by rw [e1];exact l1,by rw [e2];exact l2,.inl rfl,λ_ h=> by simp at h,.inr ⟨by rw [e2,hk];decide,rfl,Em _ _⟩,.inr ⟨by simp,e3,λ_=> .inr ⟨rfl,_,hu',λ_=> rfl⟩⟩⟩
 unfold fZ;cases ca.find d.aj with
 | none=> exact key d rfl rfl rfl
 | some own=>
  by_cases h:d.next=me
  ·simp only [if_pos h];exact key { d with next:=own.fwd } rfl rfl rfl
  ·simp only [if_neg h];exact key d rfl rfl rfl
theorem Rk {c:Cfg}{n:Node}{me:Int}(I:DK c n.aC)(D:aaS c n)(hs0:n.aF.step≠0){p:Pkt}(Q:yV c p){ca:Cache}{d:dL}(h:zT n.aF me n.aC p=(ca,d,true)):Eo c n.aF n.aC d ca:=by
 have hf:n.aF.fits p=true:=by
  cases e:n.aF.fits p with
  | true=> rfl
  | false=> rw [En e] at h;simp [vP] at h
 have hpk:=Xj hf;have akB:n.aF.step=1->mY c p.data:=λe=> Q.dat (.inl (by rw [hpk,e];rfl));have akC:n.aF.step=2∨n.aF.step=3->mY c p.data:=λe=> Q.dat (.inr (by rcases e with e | e <;> rw [hpk,e] <;> rfl));have s6:n.aF.step=6->(n.aC,{ n.aF with step:=0 },true)=(ca,d,true)->Eo c n.aF n.aC d ca:=λs e=> by
  simp only [zad,and_true] at e;obtain⟨rfl,rfl⟩:=e;exact⟨I,rfl,rfl,D.dat,λ_ h=> by simp at h,.inl (zbe _),.inl ⟨s,rfl,rfl⟩⟩
 unfold zT at h;by_cases k1:n.aF.aS=1
 ·rw [if_pos k1] at h;unfold iI at h;rw [if_neg (show¬(n.aF.aS≠1∨n.aF.fits p=false) by rw [hf];rintro(h | h) <;> first | omega | cases h)] at h;have W:=D.work (by omega);by_cases t1:n.aF.step=1
  ·rw [if_pos t1] at h;have W:=W (by omega);by_cases p0:p.aW≠0
   ·rw [if_pos p0] at h;simp only [zad,and_true] at h;obtain⟨rfl,rfl⟩:=h;exact⟨I,rfl,rfl,.inr (akB t1),λh=> by simp only at h;omega,.inl (zbe _),.inr ⟨by simp,by omega,λ_=> .inl ⟨by simp,rfl⟩⟩⟩
   ·rw [if_neg p0] at h;simp only [zad,and_true] at h;obtain⟨rfl,rfl⟩:=h;obtain⟨u,hu⟩:=Jh I.aG (e:=⟨-1,-1,n.aF.aj,0,false,p.data⟩) D.lo W.full;exact⟨I.put D.lo D.hi (akB t1),rfl,rfl,.inl rfl,λ_ h=> by simp at h,.inr ⟨by omega,rfl,Em _ _⟩,.inr ⟨by simp,by omega,λ_=> .inr ⟨rfl,_,hu,λh=> by omega⟩⟩⟩
  rw [if_neg t1] at h;by_cases t2:n.aF.step=2
  ·rw [if_pos t2] at h;have W:=W (by omega);simp only [zad,and_true] at h;obtain⟨rfl,rfl⟩:=h;obtain⟨u,hu⟩:=Jh I.aG (e:=⟨n.aF.head,-1,n.aF.aj,0,false,p.data⟩) D.lo W.full;refine⟨I.put D.lo D.hi (akC (.inl t2)),rfl,rfl,?_,λh=> by simp only at h;omega,.inr ⟨by omega,rfl,Em _ _⟩,.inr ⟨by simp,by omega,λ_=> .inr ⟨rfl,_,hu,λh=> by omega⟩⟩⟩;simp only;split
   ·exact .inr (akC (.inl t2))
   ·exact .inl rfl
  rw [if_neg t2] at h;by_cases t6:n.aF.step=6
  ·rw [if_pos t6] at h;exact s6 t6 h
  ·rw [if_neg t6] at h;simp [vP] at h
 rw [if_neg k1] at h;by_cases k2:n.aF.aS=2
 ·rw [if_pos k2] at h;unfold jy at h;rw [if_neg (show¬(n.aF.aS≠2∨n.aF.fits p=false) by rw [hf];rintro(h | h) <;> first | omega | cases h)] at h;have W:=D.work (by omega);by_cases t1:n.aF.step=1
  ·rw [if_pos t1] at h;have W:=W (by omega);simp only [zad,and_true] at h;obtain⟨rfl,rfl⟩:=h;have key:∀dt,mY c dt->Eo c n.aF n.aC (fZ { n.aF with aW:=p.aW,head:=p.ptr,told:=p.ptr,data:=dt,next:=p.ptr } me n.aC).2 (fZ { n.aF with aW:=p.aW,head:=p.ptr,told:=p.ptr,data:=dt,next:=p.ptr } me n.aC).1:=λdt hdt=>
    Rj (d:={ n.aF with aW:=p.aW,head:=p.ptr,told:=p.ptr,data:=dt,next:=p.ptr }) I D.lo D.hi W.full hdt k2 (show n.aF.step≠6 by omega) rfl rfl (by omega)
   cases hfd:n.aC.find n.aF.aj with
   | none=> exact key _ (akB t1)
   | some e=> exact key _ (I.ent e ((fQ I.aG).1 hfd).1).dat
  rw [if_neg t1] at h;by_cases t3:n.aF.step=3
  ·rw [if_pos t3] at h;have W:=W (by omega);simp only [zad,and_true] at h;obtain⟨rfl,rfl⟩:=h;have key:∀dt,mY c dt->Eo c n.aF n.aC (fZ { n.aF with data:=dt,next:=p.ptr } me n.aC).2 (fZ { n.aF with data:=dt,next:=p.ptr } me n.aC).1:=λdt hdt=>
    Rj (d:={ n.aF with data:=dt,next:=p.ptr }) I D.lo D.hi W.full hdt k2 (show n.aF.step≠6 by omega) rfl rfl (by omega)
   cases hfd:n.aC.find n.aF.aj with
   | none=> exact key _ (akC (.inr t3))
   | some e=> exact key _ (D.ac3 k2 t3)
  rw [if_neg t3] at h;by_cases t6:n.aF.step=6
  ·rw [if_pos t6] at h;exact s6 t6 h
  ·rw [if_neg t6] at h;simp [vP] at h
 rw [if_neg k2] at h;have k3:n.aF.aS=3:=by have:=D.aS;omega
 rw [if_pos k3] at h;unfold kE at h;rw [if_neg (show¬(n.aF.aS≠3∨n.aF.fits p=false) by rw [hf];rintro(h | h) <;> first | omega | cases h)] at h;have no3:∀{P:Prop},n.aF.aS≠3->P:=λh=> absurd k3 h;by_cases t1:n.aF.step=1
 ·rw [if_pos t1] at h;cases hfd:n.aC.find n.aF.aj with
  | none=>
   simp only [hfd,zad,and_true] at h;obtain⟨rfl,rfl⟩:=h;exact⟨I,rfl,rfl,.inl rfl,λh=> by simp only at h;omega,.inl (zbe _),.inr ⟨by simp,by omega,no3⟩⟩
  | some e=>
   simp only [hfd] at h;have E:=I.ent e ((fQ I.aG).1 hfd).1;by_cases b1:e.back=-1/\e.fwd=-1
   ·simp only [if_pos b1,zad,and_true] at h;obtain⟨rfl,rfl⟩:=h;refine⟨I.drop _,rfl,rfl,?_,λh=> by simp only at h;omega,.inl (by rw [zf];exact zbe _),.inr ⟨by simp,by omega,no3⟩⟩;simp only;split
    ·exact .inr E.dat
    ·exact .inl rfl
   ·simp only [if_neg b1] at h;by_cases b2:e.back=-1
    ·simp only [if_pos b2,zad,and_true] at h;obtain⟨rfl,rfl⟩:=h;exact⟨I,rfl,rfl,.inl rfl,λh=> by simp only at h;omega,.inl (zbe _),.inr ⟨by simp,by omega,no3⟩⟩
    ·simp only [if_neg b2,zad,and_true] at h;obtain⟨rfl,rfl⟩:=h;exact⟨I,rfl,rfl,.inl rfl,λh=> by simp only at h;omega,.inl (zbe _),.inr ⟨by simp,by omega,no3⟩⟩
 rw [if_neg t1] at h;have out:∀hd,pq n.aF n.aC hd=(ca,d,true)->n.aF.step≠6->Eo c n.aF n.aC d ca:=λhd e hs=> by
  simp only [pq,zad,and_true] at e;obtain⟨rfl,rfl⟩:=e;exact⟨I.drop _,rfl,rfl,.inl rfl,λh=> by simp only at h;omega,.inl (by rw [zf];exact zbe _),.inr ⟨by simp,hs,no3⟩⟩
 by_cases t4:n.aF.step=4
 ·rw [if_pos t4] at h;split at h
  ·exact out _ h (by omega)
  ·simp only [zad,and_true] at h;obtain⟨rfl,rfl⟩:=h;exact⟨I,rfl,rfl,D.dat,λh=> by simp only at h;omega,.inl (zbe _),.inr ⟨by simp,by omega,no3⟩⟩
 rw [if_neg t4] at h;by_cases t5:n.aF.step=5
 ·rw [if_pos t5] at h;split at h
  ·exact out _ h (by omega)
  ·exact out _ h (by omega)
 rw [if_neg t5] at h;by_cases t6:n.aF.step=6
 ·rw [if_pos t6] at h;exact s6 t6 h
 ·rw [if_neg t6] at h;simp [vP] at h
structure Xk where
 a:Nat->Nat
 f:Nat
 P:Nat->Nat->Nat
 t:Nat
def aeE(S:Xk)(k:Nat)(q:Nat):Prop:=(∃i,i < 6/\q=S.a i)∨Xc S.P k q∨q=S.t
structure NW(g:bJ)(S:Xk)(c:Cfg)(me:Int)(w:NFT):Prop where
 dG:nV g S.a c me w.1
 fab:mZ g S.f S.P c w.2.1
 tr:g S.t=some (xJ w.2.2)
 Zc:adO S.P w.2.1.l.length
 tf:S.t≠S.f
theorem lG {g:bJ}{x y:Nat}{A B:List Cell}(h:g x=some A)(h':g y=some B)(hl:A.length≠B.length):x≠y:=λe=> by
 subst e;rw [h] at h';exact hl (by rw [zaT h'])
theorem ah2 {g:bJ}{x y:Nat}{A B:List Cell}(h:g x=some A)(h':g y=some B)(hl:A[1]?≠B[1]?):x≠y:=λe=> by
 subst e;rw [h] at h';exact hl (by rw [zaT h'])
section
variable {b:Nat}{K K':ah}{g g':bJ}{ls:Lcl}{S:Xk}{c:Cfg}{me:Int}{w:NFT}
theorem gY {a:Nat->Nat}{d:dL}{num:Int}:(EU a c me d num).length=22:=by simp [EU,OG,Cfg.av,dL.av]
theorem lK {l:List Evn}:(xJ l).length=1:=rfl
theorem jr {P:Nat->Nat->Nat}{n:Nat}:(Zb P n).length=1:=rfl
theorem fA {ca:Cache}:(uV ca).length=4:=rfl
theorem gZ {p:Proc}:(ES p).length=3:=rfl
theorem fB {t:Turns}:(uX t).length=2:=rfl
theorem iY {l:List Pkt}{r:Int}:(Aq l r).length=2:=rfl
theorem jB {r:Rows}:(Gm c r).length=9:=by simp [Gm,Cfg.av]
theorem ig {d t:Nat}:(ET d t c me).length=11:=by simp [ET,Cfg.av]
theorem NW.acd(N:NW g S c me w):(∀i,i < 6->S.a i≠S.t):=λi hi=> by
 obtain⟨h0,h1,h2,h3,h4,h5⟩:=N.dG
 match i,hi with
 | 0,_=> exact lG h0 N.tr (by simp only [gY,lK];decide)
 | 1,_=> exact lG h1 N.tr (by simp only [lK,fA];decide)
 | 2,_=> exact lG h2 N.tr (by simp only [lK,gZ];decide)
 | 3,_=> exact lG h3 N.tr (by simp only [lK,ig];decide)
 | 4,_=> exact lG h4 N.tr (by simp only [lK,jB];decide)
 | 5,_=> exact lG h5 N.tr (by simp only [lK,fB];decide)
theorem NW.akD(N:NW g S c me w):(∀i,i < 6->S.a i≠S.f):=λi hi=> by
 obtain⟨h0,h1,h2,h3,h4,h5⟩:=N.dG;have h:=N.fab.1
 match i,hi with
 | 0,_=> exact lG h0 h (by simp only [gY,jr];decide)
 | 1,_=> exact lG h1 h (by simp only [jr,fA];decide)
 | 2,_=> exact lG h2 h (by simp only [jr,gZ];decide)
 | 3,_=> exact lG h3 h (by simp only [jr,ig];decide)
 | 4,_=> exact lG h4 h (by simp only [jr,jB];decide)
 | 5,_=> exact lG h5 h (by simp only [jr,fB];decide)
theorem NW.port {q:Nat}(N:NW g S c me w)(h:Xc S.P w.2.1.l.length q):∃l r,g q=some (Aq l r):=by
 obtain⟨i,s,hi,hs,rfl⟩:=h;exact⟨_,_,oq (N.fab.port hi) hs⟩
theorem NW.Zv(N:NW g S c me w){q:Nat}(h:Xc S.P w.2.1.l.length q):(∀i,i < 6->S.a i≠q)/\S.t≠q/\S.f≠q:=by
 obtain⟨l,r,hg⟩:=N.port h;obtain⟨h0,h1,h2,h3,h4,h5⟩:=N.dG;refine⟨λi hi=> ?_,lG N.tr hg (by simp only [lK,iY];decide),lG N.fab.1 hg (by simp only [jr,iY];decide)⟩
 match i,hi with
 | 0,_=> exact lG h0 hg (by simp only [gY,iY];decide)
 | 1,_=> exact lG h1 hg (by simp only [fA,iY];decide)
 | 2,_=> exact lG h2 hg (by simp only [gZ,iY];decide)
 | 3,_=> exact lG h3 hg (by simp only [iY,ig];decide)
 | 4,_=> exact lG h4 hg (by simp only [iY,jB];decide)
 | 5,_=> exact ah2 h5 hg (by simp [uX,Aq])
theorem mZ.same {f:Nat}{P:Nat->Nat->Nat}{fab:Fab}(F:mZ g f P c fab)(hf:g' f=g f)(hp:∀q,Xc P fab.l.length q->g' q=g q):mZ g' f P c fab:=
 ⟨by rw [hf];exact F.1,λi p hi=> (F.2.1 i p hi).ext λs hs=> hp _ ⟨i,s,(zah.1 hi).1,hs,rfl⟩,F.2.2⟩
theorem NW.set(N:NW g S c me w){n:Node}(hn:nV g' S.a c me n)(h:∀q,(∀i,i < 6->q≠S.a i)->g' q=g q):NW g' S c me (n,w.2):=by
 refine⟨hn,N.fab.same (h _ λi hi=> (N.akD i hi).symm) (λq hq=> h _ λi hi=> ((N.Zv hq).1 i hi).symm),?_,N.Zc,N.tf⟩;rw [h _ λi hi=> (N.acd i hi).symm];exact N.tr
theorem Off.aiI {k:Nat}(h:∀q,(∀i,i < 6->q≠S.a i)->g' q=g q):Off (aeE S k) g g':=λq hq=> h q λi hi e=> hq (.inl ⟨i,hi,e⟩)
theorem zh {i:Nat}(hi:i < 6){cs:List Cell}:∀q,(∀i,i < 6->q≠S.a i)->upd g (S.a i) cs q=g q:=λq hq=> bP (hq i hi)
theorem NW.aC(N:NW g S c me w)(ca:Cache):NW (upd g (S.a 1) (uV ca)) S c me ({ w.1 with aC:=ca },w.2):=by
 refine N.set ?_ (zh (by decide));have I:=N.dG;obtain⟨h0,h1,h2,h3,h4,h5⟩:=N.dG;have ne:∀i,i < 6->i≠1->S.a i≠S.a 1:=λi hi h e=> h (I.inj hi (by decide) e);exact⟨by rw [bP (ne 0 (by decide) (by decide))];exact h0,aY,by rw [bP (ne 2 (by decide) (by decide))];exact h2,by rw [bP (ne 3 (by decide) (by decide))];exact h3,by rw [bP (ne 4 (by decide) (by decide))];exact h4,by rw [bP (ne 5 (by decide) (by decide))];exact h5⟩
theorem NW.bW(N:NW g S c me w)(p:Proc):NW (upd g (S.a 2) (ES p)) S c me ({ w.1 with bW:=p },w.2):=by
 refine N.set ?_ (zh (by decide));have I:=N.dG;obtain⟨h0,h1,h2,h3,h4,h5⟩:=N.dG;have ne:∀i,i < 6->i≠2->S.a i≠S.a 2:=λi hi h e=> h (I.inj hi (by decide) e);exact⟨by rw [bP (ne 0 (by decide) (by decide))];exact h0,by rw [bP (ne 1 (by decide) (by decide))];exact h1,aY,by rw [bP (ne 3 (by decide) (by decide))];exact h3,by rw [bP (ne 4 (by decide) (by decide))];exact h4,by rw [bP (ne 5 (by decide) (by decide))];exact h5⟩
theorem NW.own(N:NW g S c me w)(d:dL)(num:Int):NW (upd g (S.a 0) (EU S.a c me d num)) S c me ({ w.1 with aF:=d,num:=num },w.2):=by
 refine N.set ?_ (zh (by decide));have I:=N.dG;obtain⟨h0,h1,h2,h3,h4,h5⟩:=N.dG;have ne:∀i,i < 6->i≠0->S.a i≠S.a 0:=λi hi h e=> h (I.inj hi (by decide) e);exact⟨aY,by rw [bP (ne 1 (by decide) (by decide))];exact h1,by rw [bP (ne 2 (by decide) (by decide))];exact h2,by rw [bP (ne 3 (by decide) (by decide))];exact h3,by rw [bP (ne 4 (by decide) (by decide))];exact h4,by rw [bP (ne 5 (by decide) (by decide))];exact h5⟩
theorem NW.home(N:NW g S c me w)(h:Home):NW (wz g (S.a 4) (S.a 5) c h) S c me ({ w.1 with home:=h },w.2):=by
 have I:=N.dG;obtain⟨h0,h1,h2,hh⟩:=N.dG;refine N.set ?_ λq hq=> ?_
 ·have ne:∀i j,i < 6->j < 6->i≠j->S.a i≠S.a j:=λi j hi hj h e=> h (I.inj hi hj e);refine⟨?_,?_,?_,hh.aiG h⟩
  ·unfold wz;rw [bP (ne 0 5 (by decide) (by decide) (by decide)),bP (ne 0 4 (by decide) (by decide) (by decide))];exact h0
  ·unfold wz;rw [bP (ne 1 5 (by decide) (by decide) (by decide)),bP (ne 1 4 (by decide) (by decide) (by decide))];exact h1
  ·unfold wz;rw [bP (ne 2 5 (by decide) (by decide) (by decide)),bP (ne 2 4 (by decide) (by decide) (by decide))];exact h2
 ·unfold wz;rw [bP (hq 5 (by decide)),bP (hq 4 (by decide))]
theorem NW.trace(N:NW g S c me w)(l:List Evn):NW (upd g S.t (xJ l)) S c me (w.1,w.2.1,l):=by
 refine⟨N.dG.ext λs hs=> bP (N.acd s hs),N.fab.same (bP N.tf.symm) (λq hq=> bP (N.Zv hq).2.1.symm),aY,N.Zc,N.tf⟩
theorem NW.net(N:NW g S c me w){fab:Fab}(F:mZ g' S.f S.P c fab)(hl:fab.l.length=w.2.1.l.length)(O:Off (Xc S.P w.2.1.l.length) g g'):NW g' S c me (w.1,fab,w.2.2):=by
 have no:∀i,i < 6->¬Xc S.P w.2.1.l.length (S.a i):=λi hi h=> (N.Zv h).1 i hi rfl;refine⟨N.dG.ext λs hs=> O _ (no s hs),F,?_,by rw [hl];exact N.Zc,N.tf⟩;rw [O _ λh=> (N.Zv h).2.1 rfl];exact N.tr
theorem NW.sub(N:NW g S c me w)(h:MO g g'):NW g' S c me w:=
 ⟨N.dG.ext λs hs=> by obtain⟨l,hl⟩:=N.dG.some hs;rw [hl,h _ _ hl],N.fab.sub h,h _ _ N.tr,N.Zc,N.tf⟩
theorem Loc.sub(L:Loc b K g ls):MO g (lay g ls):=λq cs h=> L.obj h
theorem Loc.home(L:Loc b K g ls){d t:Nat}{cs cs':List Cell}(h4:g d=some cs)(h5:g t=some cs'){h:Home}(G:Good b K' (wz (lay g ls) d t c h)):Loc b K' (wz g d t c h) ls:=by
 have e4:=(L.at_ h4).2;have e5:=(L.at_ h5).2;unfold wz at G ⊢;refine⟨by rw [Jg e5,Jg e4];exact G,λr hr=> ?_⟩;rw [bP (λe=> by subst e;exact hr e5),bP (λe=> by subst e;exact hr e4)];exact L.free r hr
theorem Loc.net(L:Loc b K g ls){T:Nat->Prop}(hT:∀q,T q->g q≠none){g1:bJ}(G:Good b K' g1)(O:Off T (lay g ls) g1):∃g',Loc b K' g' ls/\Off T g g'/\∀q,ls q=none->g' q=g1 q:=by
 let g':bJ:=λq=> match ls q with
  | some _=> none
  | none=> g1 q
 have at1:∀q,ls q=none->g' q=g1 q:=λq h=> by simp only [g',h]
 have e:lay g' ls=g1:=by
  funext q
  cases h:ls q with
  | none=> simp only [lay,h];exact at1 q h
  | some xs=>
   have:¬T q:=λht=> hT q ht (L.free q (by rw [h];simp));rw [O q this];simp only [lay,h]
 refine⟨g',⟨by rw [e];exact G,λr hr=> ?_⟩,λq hq=> ?_,at1⟩
 ·simp only [g'];cases h:ls r with
  | none=> exact absurd h hr
  | some xs=> rfl
 ·cases h:ls q with
  | none=> rw [at1 q h,O q hq];simp only [lay,h]
  | some xs=>
   simp only [g',h];rw [L.free q (by rw [h];simp)]
end
theorem NW.agree {g g':bJ}{S:Xk}{c:Cfg}{me:Int}{w:NFT}(N:NW g S c me w)(h:∀q,aeE S w.2.1.l.length q∨q=S.f->g' q=g q):NW g' S c me w:=
 ⟨N.dG.ext λs hs'=> h _ (.inl (.inl ⟨s,hs',rfl⟩)),N.fab.same (h _ (.inr rfl)) λq hq=> h _ (.inl (.inr (.inl hq))),by rw [h _ (.inl (.inr (.inr rfl)))];exact N.tr,N.Zc,N.tf⟩
theorem NW.here {g:bJ}{S:Xk}{c:Cfg}{me:Int}{w:NFT}(N:NW g S c me w){q:Nat}(h:aeE S w.2.1.l.length q):g q≠none:=by
 rcases h with⟨i,hi,rfl⟩ | hp | rfl
 ·obtain⟨l,hl⟩:=N.dG.some hi;rw [hl];simp
 ·obtain⟨l,r,hl⟩:=N.port hp;rw [hl];simp
 ·rw [N.tr];simp
def ale(b:Nat)(H:ah)(g:bJ)(S:Xk)(c:Cfg)(me:Int)(k:Nat)(H':ah)(w':NFT):Prop:=
 ∃g',Good b H' g'/\NW g' S c me w'/\Off (aeE S k) g g'/\Step b H H'/\w'.2.1.l.length=k
structure Walk(b:Nat)(H:ah)(g0:bJ)(S:Xk)(c:Cfg)(me:Int)(k:Nat)(K:ah)(g:bJ)(ls:Lcl)(w:NFT):Prop where
 hb:H.base<=b
 loc:Loc b K g ls
 nw:NW g S c me w
 off:Off (aeE S k) g0 g
 step:Step b H K
 len:w.2.1.l.length=k
section
variable {b:Nat}{H:ah}{g0:bJ}{S:Xk}{c:Cfg}{me:Int}{k:Nat}{K K':ah}{g:bJ}{ls:Lcl}{w w':NFT}
theorem Walk.base(W:Walk b H g0 S c me k K g ls w):K.base<=b:=by rw [W.step.base];exact W.hb
theorem Walk.res(W:Walk b H g0 S c me k K g ls w):ale b H g0 S c me k K w:=⟨g,W.loc.out,W.nw,W.off,W.step,W.len⟩
theorem Walk.same(W:Walk b H g0 S c me k K g ls w)(G:Good b K' (lay g ls))(s:Step b K K'):Walk b H g0 S c me k K' g ls w:=⟨W.hb,⟨G,W.loc.free⟩,W.nw,W.off,W.step.trans s,W.len⟩
theorem Walk.aC(W:Walk b H g0 S c me k K g ls w){ca:Cache}(G:Good b K' (upd (lay g ls) (S.a 1) (uV ca)))(s:Step b K K'):Walk b H g0 S c me k K' (upd g (S.a 1) (uV ca)) ls ({ w.1 with aC:=ca },w.2):=
 ⟨W.hb,W.loc.call W.nw.dG.2.1 G,W.nw.aC ca,W.off.trans (Off.aiI (zh (by decide))),W.step.trans s,W.len⟩
theorem Walk.bW(W:Walk b H g0 S c me k K g ls w){p:Proc}(G:Good b K' (upd (lay g ls) (S.a 2) (ES p)))(s:Step b K K'):Walk b H g0 S c me k K' (upd g (S.a 2) (ES p)) ls ({ w.1 with bW:=p },w.2):=
 ⟨W.hb,W.loc.call W.nw.dG.2.2.1 G,W.nw.bW p,W.off.trans (Off.aiI (zh (by decide))),W.step.trans s,W.len⟩
theorem Walk.own(W:Walk b H g0 S c me k K g ls w){d:dL}{num:Int}(G:Good b K' (upd (lay g ls) (S.a 0) (EU S.a c me d num)))(s:Step b K K'):Walk b H g0 S c me k K' (upd g (S.a 0) (EU S.a c me d num)) ls ({ w.1 with aF:=d,num:=num },w.2):=
 ⟨W.hb,W.loc.call W.nw.dG.1 G,W.nw.own d num,W.off.trans (Off.aiI (zh (by decide))),W.step.trans s,W.len⟩
theorem Walk.home(W:Walk b H g0 S c me k K g ls w){h:Home}(G:Good b K' (wz (lay g ls) (S.a 4) (S.a 5) c h))(s:Step b K K'):Walk b H g0 S c me k K' (wz g (S.a 4) (S.a 5) c h) ls ({ w.1 with home:=h },w.2):=by
 obtain⟨h0,h1,h2⟩:=W.nw.dG.2.2.2;refine⟨W.hb,W.loc.home h1 h2 G,W.nw.home h,W.off.trans (Off.aiI λq hq=> ?_),W.step.trans s,W.len⟩;unfold wz;rw [bP (hq 5 (by decide)),bP (hq 4 (by decide))]
theorem Walk.trace(W:Walk b H g0 S c me k K g ls w){l:List Evn}(G:Good b K' (upd (lay g ls) S.t (xJ l)))(s:Step b K K'):Walk b H g0 S c me k K' (upd g S.t (xJ l)) ls (w.1,w.2.1,l):=
 ⟨W.hb,W.loc.call W.nw.tr G,W.nw.trace l,W.off.trans (Off.upd (.inr (.inr rfl))),W.step.trans s,W.len⟩
theorem Walk.alQ(W:Walk b H g0 S c me k K g ls w):NW (lay g ls) S c me w:=W.nw.sub W.loc.sub
theorem Walk.net(W:Walk b H g0 S c me k K g ls w){g1:bJ}{fab:Fab}(G:Good b K' g1)(F:mZ g1 S.f S.P c fab)(hl:fab.l.length=w.2.1.l.length)(O:Off (Xc S.P w.2.1.l.length) (lay g ls) g1)(s:Step b K K'):∃g',Walk b H g0 S c me k K' g' ls (w.1,fab,w.2.2):=by
 obtain⟨g',L,O',h⟩:=W.loc.net (T:=Xc S.P w.2.1.l.length) (λq hq=> by obtain⟨l,r,e⟩:=W.nw.port hq;rw [e];simp) G O;have no:∀{q cs},g q=some cs->ls q=none:=λe=> (W.loc.at_ e).2;have F':mZ g' S.f S.P c fab:=F.same (h _ (no W.nw.fab.1)) λq hq=> by
  rw [hl] at hq;obtain⟨l,r,e⟩:=W.nw.port hq;exact h _ (no e)
 refine⟨g',W.hb,L,W.nw.net F' hl O',W.off.trans (O'.mono λq hq=> .inr (.inl (by rw [<-W.len];exact hq))),W.step.trans s,by rw [<-W.len];exact hl⟩
theorem Walk.app(W:Walk b H g0 S c me k K g ls w)(h:ale b K (lay g ls) S c me k K' w'):∃g',Walk b H g0 S c me k K' g' ls w':=by
 obtain⟨g1,G,N,O,s,hl⟩:=h;obtain⟨g',L,O',h⟩:=W.loc.net (T:=aeE S k) (λq hq=> W.nw.here (by rw [W.len];exact hq)) G O;have no:∀q,g q≠none->ls q=none:=λq hq=> by
  cases e:ls q with
  | none=> rfl
  | some xs=> exact absurd (W.loc.free q (by rw [e];simp)) hq
 refine⟨g',W.hb,L,N.agree λq hq=> h q (no q ?_),W.off.trans O',W.step.trans s,hl⟩;rcases hq with hq | rfl
 ·exact W.nw.here (by rw [W.len,<-hl];exact hq)
 ·rw [W.nw.fab.1];simp
end
section
variable {b:Nat}{H:ah}{g0:bJ}{S:Xk}{c:Cfg}{me:Int}{k:Nat}{K K':ah}{g:bJ}{ls:Lcl}{w w':NFT}
structure PSz(p:Proc):Prop where
 ops:p.ops.length < 1000
 vals:p.bf.length<=p.ops.length
theorem Walk.cur(W:Walk b H g0 S c me k K g ls w)(hp:PSz w.1.bW):∃K',cl 136 [.ref (S.a 2) 0 0] K=some (.tup [.agg w.1.bW.op.av,I w.1.bW.idx,B w.1.bW.cur.isSome],K')/\Walk b H g0 S c me k K' g ls w:=by
 obtain⟨K',h1,h2,h3⟩:=ad7 W.loc.good W.base (W.loc.obj W.nw.dG.2.2.1) hp.ops (by have:=hp.vals;have:=hp.ops;omega) hp.vals;exact⟨K',h1,W.same h2 h3⟩
theorem Walk.find(W:Walk b H g0 S c me k K g ls w)(C:COk w.1.aC)(aj:Int):cl 41 [.ref (S.a 1) 0 0,I aj] K=some (oh (w.1.aC.find aj),K):=
 Ec W.loc.good (W.loc.obj W.nw.dG.2.1) C.len C.dat aj
theorem Walk.send(W:Walk b H g0 S c me k K g ls w)(F:FOk c w.2.1)(p:Pkt)(hl:p.data.length < 1000000000):∃K' g',cl 143 [.ref S.f 0 0,.agg p.av] K=some (I (w.2.1.send p).2,K')/\Walk b H g0 S c me k K' g' ls (w.1,(w.2.1.send p).1,w.2.2):=by
 obtain⟨K',g1,h1,h2,h3,h4,h5⟩:=ad6 W.loc.good W.base W.alQ.fab W.nw.Zc F p hl;have hlen:(w.2.1.send p).1.l.length=w.2.1.l.length:=by
  unfold Fab.send;split
  ·rfl
  ·split
   ·rfl
   ·simp [Fab.put]
 obtain⟨g',W'⟩:=W.net h2 h3 hlen h4 h5;exact⟨K',g',h1,W'⟩
end
theorem ad8 {n:Nat}{x v r:AV}{H H':ah}(h:st n x v H=some (r,H')):H'.next=H.next:=by
 unfold st at h;split at h
 ·split at h
  ·split at h
   ·cases h;rfl
   ·cases h
  ·cases h
 ·cases h
theorem is0(H:ah)(e:Ent)(w:Int):cl0 222 [.agg e.av,I w] H=some (B (decide (0<=w/\w < e.data.length)),H.new (.blk 0 100 e.av)):=by
 refine gK (ahA _ _ _ _ ?_);have e1:=λH=> (gW H e.data).lnS;by_cases h0:0<=w
 ·simp only [Nat.reduceLT,xq_,hq_,Wh,aO,Ent.av,h0,e1]
 ·simp only [Nat.reduceLT,xq_,hq_,Wh,aO,Ent.av,h0,false_and]
theorem ah3(H:ah)(l:List Int)(h:l≠[])(hl:l.length < 1000000000):cl0 36 [dat l] H=some (.sl (H.next+1) 0 0 1 l.length l.length false,(H.new (.blk 0 3 [])).new (.blk 0 (3+gB) (l.map I))):=by
 have h0:l.length≠0:=λe=> h (zan e);have e2:=qg (e:=3) (by_:=8) (r:=H.next) (H:=H.new (.blk 0 3 [])) pY (gW _ l) (uj l) h0 (by unfold most;omega) (by unfold most;omega);simp only [fC] at e2;have e1:bi .eql 22 (dat l) zN=some (B false):=by rw [tq h];exact qh Tryz.underlying22
 refine gK (YR _ _ _ ?_);simp only [xq_,VL,e1,NU,vO,e2,zbi,zaR]
section
variable {b:Nat}{H:ah}{g0:bJ}{S:Xk}{c:Cfg}{me:Int}{k:Nat}{K K':ah}{g:bJ}{ls:Lcl}{w w':NFT}
theorem Walk.new(W:Walk b H g0 S c me k K g ls w)(o:eP):Walk b H g0 S c me k (K.new o) g ls w:=⟨W.hb,W.loc.new o,W.nw,W.off,W.step.trans (Step.new _ W.loc.good.1),W.len⟩
theorem Ji {args:List AV}{r:AV × ah}(h:cl0 190 args K=some r):cl 190 args K=some r:=UU (p:=cl0 190) rfl h
theorem Walk.write(W:Walk b H g0 S c me k K g ls w){r:Nat}{e:Ent}(h:ls r=some e.av)(he:e.data.length < 1000000000)(i v:Int):
  ∃res K' x,cl 190 [.ref r 0 0,I i,I v] K=some (res,K')/\mQ K' x (e.write i v).data/\Walk b H g0 S c me k K' g (Rh ls r ((e.write i v).avx x)) w:=by
 have same:Rh ls r e.av=ls:=by
  funext x;simp only [Rh];split
  ·rename_i hx;rw [hx,h]
  ·rfl
 have hr:r < K.next:=W.loc.good.lt (LK h)
 have l4:=W.loc.ld h (i:=4) (v:=B e.bG) rfl;cases hd:e.bG with
 | false=>
  have hm:e.write i v=e:=by unfold Ent.write;rw [if_neg (by simp [hd])]
  rw [hm];rw [hd] at l4;refine⟨B false,K,dat e.data,Ji (gK (V6 _ _ _ _ _ ?_)),Je _ _,by
   have:e.avx (dat e.data)=e.av:=rfl;rw [this,same];exact W⟩
  simp only [xq_,QM,l4,zaB]
 | true=>
  rw [hd] at l4;have la:=W.loc.lda h (i:=0) (n:=6) (ys:=e.av) rfl rfl (by decide);have e1:=is0 K e i;have W1:=W.new (.blk 0 100 e.av);by_cases hi:0<=i/\i < e.data.length
  ·have hm:e.write i v={ e with data:=e.data.set i.toNat v }:=by unfold Ent.write;rw [if_pos ⟨hd,hi⟩]
   have hne:e.data≠[]:=λh0=> by rw [h0] at hi;simp at hi;omega
   have e2:=ah3 (K.new (.blk 0 100 e.av)) e.data hne he;simp only [fC] at e2;have l5:=W1.loc.ld h (i:=5) (v:=dat e.data) rfl;let y:AV:=.sl (K.next+1+1) 0 0 1 e.data.length e.data.length false;obtain⟨K3,u1,L3,s3⟩:=W.loc.st W.base h (i:=5) (v:=y) (by simp [Ent.av]) pW;have nx:=ad8 u1;let o1:eP:=.blk 0 100 e.av;let o2:eP:=.blk 0 3 [];let o3:eP:=.blk 0 (3+gB) (e.data.map I);have u2:st 1 (.ref r 0 5) y (((K.new o1).new o2).new o3)=some (aV,((K3.new o1).new o2).new o3):=by
    rw [KN (by rw [fC,fC];omega),KN (by rw [fC];omega),KN hr,u1];rfl
   have L4:=((L3.new o1).new o2).new o3;have l5':=L4.ld xR (i:=5) (v:=y) (by simp [Ent.av]);have hn2:((K3.new o1).new o2).next=K.next+1+1:=by rw [fC,fC,nx]
   have hs:aA (((K3.new o1).new o2).new o3) y 1 e.data.length (e.data.map I):=by
    have:=mJ (e:=3+gB) (m:=1) (n:=e.data.length) (l:=e.data.map I) (H:=(K3.new o1).new o2) (ex:=false) (by simp);rw [hn2] at this;exact this
   have ex:=hs.ix (k:=.i64) (i:=i) hi.1 hi.2;have ep:dM y i.toNat=.ref (K.next+1+1) 0 i.toNat:=by simp [y,dM]
   rw [ep] at ex;have u3:st 1 (.ref (K.next+1+1) 0 i.toNat) (I v) (((K3.new o1).new o2).new o3)=some (aV,((K3.new o1).new o2).new (.blk 0 (3+gB) ((e.data.set i.toNat v).map I))):=by
    rw [qc hn2.symm];have hbK:((K3.new o1).new o2).base<=K.next+1+1:=by
     rw [oD,oD,s3.base];have:=W.base;have:=W.loc.good.1;omega
    have hset:aP (e.data.map I) i.toNat (I v).cells=(e.data.set i.toNat v).map I:=by
     rw [show(I v).cells=[I v] from rfl];have hlt:i.toNat < (e.data.map I).length:=by simp;omega
     unfold aP;rw [List.map_set,zcT,if_pos hlt];simp
    rw [hset,if_pos ⟨hbK,rfl,rfl,by rw [show(I v).cells=[I v] from rfl];simp only [zay,zam,zak];omega⟩]
   refine⟨B true,((K3.new o1).new o2).new (.blk 0 (3+gB) ((e.data.set i.toNat v).map I)),y,Ji (gK (V6 _ _ _ _ _ ?_)),?_,?_⟩;rotate_left
   ·rw [hm];have:=mJ (e:=3+gB) (m:=1) (n:=(e.data.set i.toNat v).length) (l:=(e.data.set i.toNat v).map I) (H:=(K3.new o1).new o2) (ex:=false) (by simp);rw [hn2] at this;rw [zbX] at this;refine⟨?_,pW,λh0=> ?_⟩
    ·simp only [zbX];exact this
    ·have:=congrArg List.length h0;simp at this;exact absurd this hne
   ·rw [hm];have L5:=((L3.new o1).new o2).new (.blk 0 (3+gB) ((e.data.set i.toNat v).map I));have hx:(e.av.set 5 y)=({ e with data:=e.data.set i.toNat v }:Ent).avx y:=rfl;rw [hx] at L5;exact⟨W.hb,L5,W.nw,W.off,((((W.step.trans s3).trans (Step.new _ L3.good.1)).trans (Step.new _ (L3.new o1).good.1)).trans (Step.new _ ((L3.new o1).new o2).good.1)),W.len⟩
   ·simp only [o1,o2,o3,y] at u2 l5' ex u3;rw [decide_eq_true hi] at e1;simp only [xq_,QM,l4,la,e1,zar,l5,e2,u2,l5',ex,u3];rfl
  ·have hm:e.write i v=e:=by unfold Ent.write;rw [if_neg (λh=> hi h.2)]
   rw [hm];refine⟨B false,_,dat e.data,Ji (gK (V6 _ _ _ _ _ ?_)),Je _ _,by
    have:e.avx (dat e.data)=e.av:=rfl;rw [this,same];exact W1⟩
   rw [decide_eq_false hi] at e1;simp only [xq_,QM,l4,la,e1,zar,zaB]
end
def Node.evs(n:Node):Nat:=2*n.bW.bf.length+(if n.bW.eG then 1 else 0)
theorem Xl {c:Cfg}{d:dL}(h:d.data=[]∨mY c d.data)(me home:Int):(d.ask me home).ok=true->yV c (d.ask me home):=by
 intro hk;have num:∀v∈d.data,I64 v:=by
  rcases h with h | h
  ·rw [h];intro v hv;cases hv
  ·exact h.2
 refine⟨hk,?_,?_⟩
 ·unfold dL.ask
  repeat' split
  all_goals (simp [Pkt.zero])
 ·unfold dL.ask
  repeat' split
  all_goals first | exact num | (intro v hv;cases hv)
theorem uw {c:Cfg}{p:Pkt}(hd:p.data=[])(hk:¬(p.aS=7∨p.aS=9)):p.ok=true->yV c p:=λh=> ⟨h,λe=> absurd e hk,by rw [hd];intro v hv;cases hv⟩
theorem Zw {c:Cfg}{dF:Rows}(hr:∀e∈dF,mY c e.2.data){aj aW head:Int}{data:List Int}(hd:∀v∈data,I64 v):∀e∈(rG c dF aj aW head data).1,mY c e.2.data:=by
 unfold rG;cases ha:jq dF aj with
 | none=> exact hr
 | some r=>
  simp only;split
  ·exact hr
  ·split
   ·exact hr
   ·rename_i h1 h2;intro e he;rcases kH he with rfl | he
    ·simp only;split
     ·exact hr _ (mF ha)
     ·rename_i h0;simp only [zbc,zae,decide_eq_true_eq,not_or,not_and,Decidable.not_not] at h2;exact⟨h2.2 h0,hd⟩
    ·exact hr e he
theorem O7 {c:Cfg}{me:Int}{h:Home}(hr:∀e∈h.dF,mY c e.2.data){p:Pkt}(hd:∀v∈p.data,I64 v):∀e∈(h.handle c me p).1.dF,mY c e.2.data:=by
 unfold Home.handle;split
 ·exact hr
 split
 ·exact hr
 split
 ·simp only;split <;> exact hr
 ·have key:∀e∈(h.unlock c p).1.dF,mY c e.2.data:=by
   unfold Home.unlock;have hd':∀v∈(if p.flag=true then p.data else []),I64 v:=by
    split
    ·exact hd
    ·intro v hv;cases hv
   generalize (if p.flag=true then p.data else [])=dat at hd' ⊢;split
   ·exact hr
   ·simp only;split
    ·exact Zw hr hd'
    ·exact hr
  simp only;split <;> exact key
theorem Xm {c:Cfg}{ca:Cache}(I:DK c ca)(p:Pkt):DK c (qj ca p).1/\((qj ca p).2.1.ok=true->yV c (qj ca p).2.1)/\(qj ca p).1.dH=ca.dH/\∀(aj:Int),c.ok=true->ca.full aj=false->(qj ca p).1.full aj=false:=by
 unfold qj;have z:Pkt.zero.ok=true->yV c Pkt.zero:=uw rfl (by simp [Pkt.zero]);split
 ·exact⟨I,z,rfl,λ_ _ h=> h⟩
 rename_i h1;cases hf:ca.find p.aj with
 | none=> exact⟨I,z,rfl,λ_ _ h=> h⟩
 | some e=>
  obtain⟨he,hl⟩:=(fQ I.aG).1 hf;have E:=I.ent e he;simp only [zbc,za9,not_or,zce,decide_eq_true_eq] at h1;have put:∀e':Ent,e'.aj=e.aj->e'.data=e.data->DK c (ca.put e').1/\(ca.put e').1.dH=ca.dH/\∀aj,ca.full aj=false->(ca.put e').1.full aj=false:=λe' h2 h3=> by
   have hf':ca.find e'.aj=some e:=by rw [h2,hl];exact hf
   refine⟨I.put (by rw [h2];exact E.lo) (by rw [h2];exact E.hi) (by rw [h3];exact E.dat),by rw [jX I.aG (by rw [h2];exact E.lo) hf'],λaj h=> ?_⟩;rw [YO I.aG (by rw [h2];exact E.lo) hf'];exact h
  simp only;split
  ·rename_i k;have u:=put { e with bG:=false,back:=p.ptr } rfl rfl;exact⟨u.1,λh=> ⟨h,λ_=> E.dat,E.dat.2⟩,u.2.1,λl _ h=> u.2.2 l h⟩
  split
  ·rename_i k;have u:=put { e with fwd:=p.ptr } rfl rfl;exact⟨u.1,uw rfl (by simp only [k];decide),u.2.1,λl _ h=> u.2.2 l h⟩
  split
  ·rename_i k;have u:=put { e with back:=p.ptr } rfl rfl;exact⟨u.1,uw rfl (by simp only [k];decide),u.2.1,λl _ h=> u.2.2 l h⟩
  ·exact⟨I.drop _,λh=> ⟨h,λ_=> E.dat,E.dat.2⟩,zf _ _,λl hc h=> VE hc I h⟩
theorem Eff.evs {c:Cfg}{me:Int}{n:Node}{r:iU}{t:List Evn}{A:NT}{B:RNT}(E:Eff c me n r t A B)(hb:n.bW.eG=true):A.2.length+n.evs=t.length+A.1.evs:=by
 have h1:A.1.bW=⟨n.bW.ops,n.bW.bf++[A.2.getLast?.elim 0 (·.value)],false⟩:=by rw [E.akA]
 have h2:=E.len;unfold Node.evs;rw [h1,hb];simp only [zal,zam,zak,if_true,zaj,if_false];omega
theorem TD {ca:Cache}(hl:Lines ca.l){aj:Int}{e:Ent}(h:ca.find aj=some e):(ca.touch aj).find aj=some { e with used:=ca.dH+1 }:=by
 obtain⟨he,hel⟩:=(fQ hl).1 h;rw [uh hl h];unfold Cache.find;rw [fQ (xu hl λy _=> by
  split
  ·rename_i h;rw [h];exact hel
  ·rfl)]
 exact⟨zaD.2 ⟨e,he,by rw [if_pos hel]⟩,hel⟩
theorem O8 {ca:Cache}(hl:Lines ca.l){aj:Int}{e:Ent}(h:ca.find aj=some e):(ca.touch aj).dH=ca.dH+1:=by rw [uh hl h]
structure ah4(m:bH):Prop where
 ok:m.c.ok=true
 len:(m.au.length:Int)=m.c.au
 fab:Gh m.c m.fab
 dG:∀(i:Nat) n,m.au[i]?=some n->aaT m.c i n
 evs:m.trace.length=(m.au.map Node.evs).sum
theorem Xn {α:Type}(f:α->Nat):∀{l:List α} {i:Nat} {a a':α},l[i]?=some a->((l.set i a').map f).sum+f a=(l.map f).sum+f a'
 | [],i,a,a',h=> by simp at h
 | x::l,0,a,a',h=> by
  simp only [za2,zaa] at h;subst h;simp only [zb8,zaA,zcH];omega
 | x::l,i+1,a,a',h=> by
  simp only [zbx] at h;have:=Xn f (a':=a') h;simp only [zb9,zaA,zcH];omega
theorem DI.ask {t:Turns}(h:DI t)(aj who id:Int):DI (t.ask aj who id).1:=by
 unfold Turns.ask;split
 ·exact h
 split
 ·refine⟨h.ok,h.oge,kR h.wk _ _,λe he w hw=> ?_⟩;rcases kH he with rfl | he
  ·rcases zaO.1 hw with hw | hw
   ·unfold Turns.ws at hw;cases ha:jq t.wait aj with
    | none=> rw [ha] at hw;cases hw
    | some ws=> rw [ha] at hw;exact h.wge _ (mF ha) w hw
   ·simp only [zaI] at hw;subst hw;simp only;omega
  ·exact h.wge e he w hw
 ·refine⟨kR h.ok _ _,λe he=> ?_,h.wk,h.wge⟩;rcases kH he with rfl | he
  ·simp only;omega
  ·exact h.oge e he
theorem DI.release {t:Turns}(h:DI t)(aj who:Int):DI (t.release aj who).1:=by
 unfold Turns.release;split
 ·refine⟨?_,λe he=> h.oge e (DF he),h.wk,h.wge⟩;show((yN t.gX aj).map (·.1)).Nodup;rw [yS];exact h.ok.erase _
 ·exact h
theorem DI.next {t:Turns}(h:DI t)(aj:Int):DI (t.next aj).1:=by
 unfold Turns.next
 split
 ·exact h
 split
 ·exact h
 ·rename_i w ws hw;have hge:∀x∈w::ws,0<=x.1:=by
   unfold Turns.ws at hw;cases e:jq t.wait aj with
   | none=> rw [e] at hw;cases hw
   | some l=>
    rw [e] at hw;rw [show l=w::ws from hw] at e;exact h.wge _ (mF e)
  refine⟨kR h.ok _ _,λe he=> ?_,kR h.wk _ _,λe he x hx=> ?_⟩
  ·rcases kH he with rfl | he
   ·exact hge w (by simp)
   ·exact h.oge e he
  ·rcases kH he with rfl | he
   ·exact hge x (zaZ _ hx)
   ·exact h.wge e he x hx
def uK(c:Cfg)(me:Int)(h:Home):Prop:=∀aj,jS c me aj=true->∃row,jq h.dF aj=some row
theorem Zx {c:Cfg}{dF:Rows}{aj aW head:Int}{data:List Int}{m:Int}(h:∃row,jq dF m=some row):∃row,jq (rG c dF aj aW head data).1 m=some row:=by
 unfold rG;cases jq dF aj with
 | none=> exact h
 | some r=>
  simp only;split
  ·exact h
  split
  ·exact h
  ·rw [fO];split
   ·exact⟨_,rfl⟩
   ·exact h
section
variable {c:Cfg}{me:Int}{h:Home}
theorem TF(hc:c.ok=true)(I:Uj c me h)(R:uK c me h)(p:Pkt):Uj c me (h.handle c me p).1/\uK c me (h.handle c me p).1:=by
 unfold Home.handle;split
 ·exact⟨I,R⟩
 rename_i h1;have hl0:0<=p.aj:=by
  simp only [zbc,za9,not_or,zce,zae] at h1;have:=h1.1.1.1;simp only [Pkt.ok,zae,decide_eq_true_eq] at this;omega
 split
 ·exact⟨I,R⟩
 rename_i h2;have hh:jS c me p.aj=true:=by
  cases e:jS c me p.aj with
  | true=> rfl
  | false=> exact absurd ((xg hc hl0).2 e) h2
 split
 ·have key:Uj c me { h with aT:=(h.aT.ask p.aj p.src p.id).1 }/\uK c me { h with aT:=(h.aT.ask p.aj p.src p.id).1 }:=⟨⟨I.aT.ask _ _ _,λe he=> by
   rcases Qs he with h | h
   ·rw [h];exact hh
   ·exact I.here e h⟩,R⟩
  simp only;split <;> exact key
 ·have key:Uj c me (h.unlock c p).1/\uK c me (h.unlock c p).1:=by
   unfold Home.unlock;generalize (if p.flag=true then p.data else [])=dat;split
   ·exact⟨I,R⟩
   ·simp only;split
    ·exact⟨⟨I.aT.release _ _,by simp only [zS];exact I.here⟩,λaj hl=> Zx (R aj hl)⟩
    ·exact⟨I,R⟩
  simp only;split <;> exact key
theorem Xo(I:Uj c me h)(R:uK c me h):Uj c me (h.grant me).1/\uK c me (h.grant me).1:=by
 unfold Home.grant;cases hr:h.ready with
 | nil=> exact⟨I,R⟩
 | cons aj l=>
  obtain⟨m1,m2,m3⟩:=xk hr;have hh:jS c me aj=true:=by
   obtain⟨e,he,rfl⟩:=zaD.1 m3;exact I.here e he
  have IC:∀e∈(h.aT.next aj).1.wait,jS c me e.1=true:=λe he=> by
   rcases KU he with h | h
   ·exact I.here e h
   ·rw [h.1];exact hh
  have hT:=I.aT.next aj
  simp only;cases ha:h.aT.next aj with
  | mk t o=>
   rw [ha] at IC hT;cases o with
   | none=> exact⟨I,R⟩
   | some w=> exact⟨⟨hT,IC⟩,R⟩
theorem Ep(R:uK c me h)(hr:∀e∈h.dF,mY c e.2.data){aj:Int}(hl:jS c me aj=true)(who id:Int):(granted h.dF me aj who id).ok=true->yV c (granted h.dF me aj who id):=by
 intro hk;obtain⟨row,h1⟩:=R aj hl;have hd:mY c (jg h.dF aj).data:=by
  unfold jg;rw [h1];exact hr _ (mF h1)
 exact⟨hk,λ_=> hd,hd.2⟩
theorem TG(hc:c.ok=true)(R:uK c me h)(hr:∀e∈h.dF,mY c e.2.data)(p:Pkt):(h.handle c me p).2.1.ok=true->yV c (h.handle c me p).2.1:=by
 unfold Home.handle;have z:Pkt.zero.ok=true->yV c Pkt.zero:=uw rfl (by simp [Pkt.zero]);split
 ·exact z
 rename_i h1;have hl0:0<=p.aj:=by
  simp only [zbc,za9,not_or,zce,zae] at h1;have:=h1.1.1.1;simp only [Pkt.ok,zae,decide_eq_true_eq] at this;omega
 split
 ·exact z
 rename_i h2;have hh:jS c me p.aj=true:=by
  cases e:jS c me p.aj with
  | true=> rfl
  | false=> exact absurd ((xg hc hl0).2 e) h2
 split
 ·simp only;split
  ·exact Ep R hr hh _ _
  ·exact z
 ·simp only;split
  ·exact uw rfl (by simp)
  ·exact z
end
structure ace(c:Cfg)(me:Int)(n:Node)(t:List Evn)(A:NFT):Prop where
 inv:aaT c me A.1
 dF:uK c me A.1.home
 fab:Gh c A.2.1
 evs:A.2.2.length+n.evs=t.length+A.1.evs
section
variable {c:Cfg}{me:Int}{n:Node}{f:Fab}{t:List Evn}{o:Opn}{e:Ent}
theorem LM(ho:n.bW.cur=some o)(hb:n.bW.eG=true)(he:n.aC.find (c.bn o.addr)=some e):
  n.effect c me t=({ n with aC:=(n.aC.put (dS e o (c.bM o.addr))).1,bW:=⟨n.bW.ops,n.bW.bf++[if o.aS=2 then 0 else e.word (c.bM o.addr)],false⟩ },t++[⟨me,n.bW.bf.length,true,if o.aS=2 then 0 else e.word (c.bM o.addr)⟩]):=by
 have hop:n.bW.op=o:=by unfold Proc.op;rw [ho];rfl
 have hidx:n.bW.idx=n.bW.bf.length:=by unfold Proc.idx;rw [ho]
 unfold Node.effect;simp only [hop,he,zax];unfold Node.done;simp only [Proc.EP,hb,if_true,hidx]
theorem Gv(I:DK c n.aC)(hov:I64 o.value)(he:n.aC.find (c.bn o.addr)=some e):DK c (n.aC.put (dS e o (c.bM o.addr))).1/\(n.aC.put (dS e o (c.bM o.addr))).1.dH=n.aC.dH:=by
 obtain⟨hem,hel⟩:=(fQ I.aG).1 he;have E:=I.ent e hem;obtain⟨y1,_⟩:=qW e o (c.bM o.addr);refine⟨I.put (by rw [y1];exact E.lo) (by rw [y1];exact E.hi) (TB E.dat hov),?_⟩;rw [jX I.aG (x:=e) (by rw [y1];exact E.lo) (by rw [y1,hel];exact he)]
theorem Zy {p:Proc}{v:Int}(P:ajg c p)(hb:p.eG=true):ajg c ⟨p.ops,p.bf++[v],false⟩:=by
 have:=P.eG hb;exact⟨P.most,P.right,by simp only [zal,zam,zak];omega,λh=> by cases h⟩
theorem TJ {ca:Cache}{d:dL}{p:Pkt}(hA:zT n.aF me n.aC p=(ca,d,false)):ca=n.aC:=by
 cases hfit:n.aF.fits p with
 | false=> rw [En hfit] at hA;simp only [vP,zad] at hA;exact hA.1.symm
 | true=>
  unfold zT at hA
  repeat' split at hA
  ·unfold iI at hA
   repeat' split at hA
   all_goals (simp only [vP,zad,zbJ,and_false] at hA)
   all_goals exact hA.1.symm
  ·unfold jy at hA
   repeat' split at hA
   all_goals (simp only [vP,zad,zbJ,and_false] at hA)
   all_goals exact hA.1.symm
  ·unfold kE at hA;split at hA
   ·simp only [vP,zad] at hA;exact hA.1.symm
   ·split at hA
    ·exfalso;cases hfd:n.aC.find n.aF.aj with
     | none=> simp [hfd] at hA
     | some e=>
      simp only [hfd] at hA
      repeat' split at hA
      all_goals simp at hA
    ·unfold pq at hA
     repeat' split at hA
     all_goals (simp only [vP,zad,zbJ,and_false] at hA)
     all_goals exact hA.1.symm
  ·simp only [vP,zad] at hA;exact hA.1.symm
theorem Jj {p:Proc}{v:Int}{n':Node}(hb:n.bW.eG=true)(h:n'.bW=⟨n.bW.ops,n.bW.bf++[v],false⟩):t.length+1+n.evs=t.length+n'.evs:=by
 unfold Node.evs;rw [h,hb];simp only [if_true,zal,zam,zak,zaj,if_false];omega
theorem LP(hc:c.ok=true)(I:aaT c me n)(R:uK c me n.home)(F:Gh c f){p:Pkt}(Q:yV c p):ace c me n t (n.answered c me f t p):=by
 have hsame:ace c me n t (n,f,t):=⟨I,R,F,rfl⟩
 unfold Node.answered;rw [Aa];by_cases hs:n.aF.step=0
 ·have hf:n.aF.fits p=false:=by
   unfold dL.fits;rw [hs];simp [KO,Qp]
  rw [En hf];simp only [vP,if_true];exact hsame
 have D:=I.aF hs;cases hA:zT n.aF me n.aC p with
 | mk ca dk=>
  obtain⟨d,ok⟩:=dk;cases ok with
  | false=>
   rw [TJ hA];simp only [if_true];exact hsame
  | true=>
   simp only [zbJ,if_false];have N:=Rk I.aC D hs Q hA;by_cases h0:d.step=0
   ·rw [if_pos h0];rcases N.way with⟨w1,_,w3⟩ | ⟨w1,_⟩
    rotate_left
    ·exact absurd h0 w1
    subst w3;by_cases k3:d.aS=3/\n.bW.op.aS=4
    ·rw [if_pos k3];have hb:=D.roll (by rw [<-N.aS];exact k3.1);have hlt:=I.bW.eG hb;have he:n.bW.EP 0=⟨n.bW.ops,n.bW.bf++[0],false⟩:=by unfold Proc.EP;rw [if_pos hb]
     simp only [Node.done,he];refine⟨⟨Zy I.bW hb,I.aC,I.dF,I.home,λh=> absurd h0 h,?_⟩,R,F,?_⟩
     ·have:=I.clk;simp only [zal,zam,zak];omega
     ·simp only [zal,zam,zak];exact Jj (p:=n.bW) hb rfl
    ·rw [if_neg k3];exact⟨⟨I.bW,I.aC,I.dF,I.home,λh=> absurd h0 h,I.clk⟩,R,F,rfl⟩
   ·rw [if_neg h0];rcases N.way with⟨_,w2,_⟩ | ⟨_,w2,w3⟩
    ·exact absurd w2 h0
    have hl0:0<=d.aj:=by rw [N.aj];exact D.lo
    by_cases h6:d.step=6/\d.aS≠3
    ·simp only [if_pos h6];have k3:n.aF.aS≠3:=by rw [<-N.aS];exact h6.2
     have W:=D.work k3 w2;obtain⟨o,ho,hol,hk1,hk2⟩:=W.op;have hmem:o∈n.bW.ops:=zat ho;obtain⟨e,he,_⟩:∃e,ca.find n.aF.aj=some e/\(n.aF.aS=2->e.bG=true):=by
      rcases w3 k3 with⟨w,_⟩ | ⟨_,w⟩
      ·exact absurd h6.1 w
      ·exact w
     have he':({ n with aC:=ca,aF:=d }:Node).aC.find (c.bn o.addr)=some e:=by show ca.find _=_;rw [hol];exact he
     rw [LM (n:={ n with aC:=ca,aF:=d }) (e:=e) ho W.eG he'];obtain⟨p1,p2⟩:=Gv (n:={ n with aC:=ca,aF:=d }) N.inv (I.bW.right o hmem).2 he';have hlt:=I.bW.eG W.eG;have al5:ca.dH<=n.bW.bf.length+1:=by
      have:=I.clk;rcases N.clk with h | ⟨_,_,h⟩ <;> omega
     refine⟨⟨Zy I.bW W.eG,p1,I.dF,I.home,λ_=> ?_,?_⟩,R,F.send (Xl N.dat _ _),?_⟩
     ·exact⟨hl0,by rw [N.aj];exact D.hi,by rw [N.aS];exact D.aS,N.dat,N.ac3,λh=> absurd h h6.2,λ_ h=> absurd h6.1 h,λ_ _=> rfl⟩
     ·simp only [zal,zam,zak];rw [p2];show ca.dH<=_;omega
     ·simp only [zal,zam,zak];exact Jj (p:=n.bW) W.eG rfl
    ·simp only [if_neg h6];refine⟨⟨I.bW,N.inv,I.dF,I.home,λ_=> ⟨hl0,by rw [N.aj];exact D.hi,by rw [N.aS];exact D.aS,N.dat,N.ac3,λh=> D.roll (by rw [<-N.aS];exact h),λk3 k6=> ?_,λk3 k6=> absurd ⟨k6,k3⟩ h6⟩,?_⟩,R,F.send (Xl N.dat _ _),rfl⟩
     ·have k3':n.aF.aS≠3:=by rw [<-N.aS];exact k3
      have W:=D.work k3' w2;rcases w3 k3' with⟨_,w⟩ | ⟨w,_⟩
      ·subst w;obtain⟨o,ho,hol,hk1,hk2⟩:=W.op;exact⟨W.eG,⟨o,ho,by rw [hol];exact N.aj.symm,by rw [N.aS];exact hk1,by rw [N.aS];exact hk2⟩,by simp only;rw [N.aj];exact W.full⟩
      ·exact absurd w k6
     ·have:=I.clk;rcases N.clk with h | ⟨k3,k6,_⟩
      ·simp only;omega
      ·exact absurd ⟨k6,by rw [N.aS];exact k3⟩ h6
theorem xU(I:aaT c me n)(R:uK c me n.home)(F:Gh c f){k l:Int}(hk:1<=k/\k<=3)(h0:0<=l)(h1:l < c.aG)(hb:n.bW.eG=true)
  (hw:k≠3->(∃o,n.bW.cur=some o/\c.bn o.addr=l/\(k=1->o.aS=1)/\(k=2->o.aS=2∨o.aS=3))/\n.aC.full l=false):ace c me n t ((n.begin_ c me f k l).1,(n.begin_ c me f k l).2,t):=by
 refine⟨⟨I.bW,I.aC,I.dF,I.home,λ_=> ⟨h0,h1,hk,.inl rfl,λ_ h=> absurd (show(1:Int)=3 from h) (by decide),λ_=> hb,λk3 _=> ?_,λ_ h=> absurd (show(1:Int)=6 from h) (by decide)⟩,I.clk⟩,R,F.send (Xl (.inl rfl) _ _),rfl⟩;obtain⟨⟨o,q1,q2,q3,q4⟩,q5⟩:=hw k3;exact⟨hb,⟨o,q1,q2,q3,q4⟩,q5⟩
theorem Zz(hc:c.ok=true)(I:aaT c me n)(R:uK c me n.home)(F:Gh c f)(ho:n.bW.cur=some o)(hd:n.aF.step=0):ace c me n t (n.work c me f t o):=by
 have hmem:o∈n.bW.ops:=zat ho;have hlt:n.bW.bf.length < n.bW.ops.length:=(zah.1 ho).1;have Rr:=I.bW.right o hmem;have O:=aiH hc Rr.1;obtain⟨n1,hn1⟩:∃n1:Node,n1={ n with bW:={ n.bW with eG:=true } }:=⟨_,rfl⟩
 have I1:aaT c me n1:=by rw [hn1];exact⟨⟨I.bW.most,I.bW.right,I.bW.vals,λ_=> hlt⟩,I.aC,I.dF,I.home,λh=> absurd hd h,I.clk⟩
 have R1:uK c me n1.home:=by rw [hn1];exact R
 have ho1:n1.bW.cur=some o:=by rw [hn1];exact ho
 have hb1:n1.bW.eG=true:=by rw [hn1]
 have hc1:n1.aC=n.aC:=by rw [hn1]
 have hd1:n1.aF.step=0:=by rw [hn1];exact hd
 obtain⟨t1,ht1⟩:∃t1,t1=if n.bW.eG=true then t else t++[⟨me,n.bW.bf.length,false,0⟩]:=⟨_,rfl⟩
 have hev:t1.length+n.evs=t.length+n1.evs:=by
  rw [ht1,hn1];unfold Node.evs;cases n.bW.eG
  ·simp only [zaj,if_false,zal,zam,zak,if_true];omega
  ·simp only [if_true]
 have lift:∀{A:NFT},ace c me n1 t1 A->ace c me n t A:=λ{A} h=> ⟨h.inv,h.dF,h.fab,by have:=h.evs;omega⟩
 unfold Node.work;simp only;rw [<-hn1,<-ht1,<-hc1];by_cases c1:o.aS=4/\n1.aC.find (c.bn o.addr)=none
 ·rw [if_pos c1];refine lift ?_;have he:n1.bW.EP 0=⟨n1.bW.ops,n1.bW.bf++[0],false⟩:=by unfold Proc.EP;rw [if_pos hb1]
  simp only [Node.done,he];refine⟨⟨Zy I1.bW hb1,I1.aC,I1.dF,I1.home,λh=> absurd hd1 h,?_⟩,R1,F,?_⟩
  ·have:=I1.clk;simp only [zal,zam,zak];omega
  ·simp only [zal,zam,zak];exact Jj (p:=n1.bW) hb1 rfl
 rw [if_neg c1];by_cases c2:o.aS=4
 ·rw [if_pos c2];exact lift (xU I1 R1 F ⟨by decide,by decide⟩ O.lo O.hi hb1 λh=> absurd rfl h)
 rw [if_neg c2];by_cases c3:(n1.aC.find (c.bn o.addr)).isSome=true/\(o.aS=1∨((n1.aC.find (c.bn o.addr)).getD .zero).bG=true)
 ·rw [if_pos c3];obtain⟨e,he⟩:=zcN.1 c3.1;have T:=I1.aC.touch he;have hf:=TD I1.aC.aG he;refine lift ?_;obtain⟨e2,he2⟩:∃e2:Ent,e2={ e with used:=n1.aC.dH+1 }:=⟨_,rfl⟩
  rw [<-he2] at hf;have hnn:({ aC:=n1.aC.touch (c.bn o.addr),bW:={ ops:=n.bW.ops,bf:=n.bW.bf,eG:=true },home:=n.home,aF:=n.aF,num:=n.num }:Node)={ n1 with aC:=n1.aC.touch (c.bn o.addr) }:=by rw [hn1]
  have hE:=LM (me:=me) (t:=t1) (n:={ n1 with aC:=n1.aC.touch (c.bn o.addr) }) (e:=e2) ho1 hb1 hf;obtain⟨p1,p2⟩:=Gv (n:={ n1 with aC:=n1.aC.touch (c.bn o.addr) }) T Rr.2 hf;rw [hnn,hE];refine⟨⟨Zy I1.bW hb1,p1,I1.dF,I1.home,λh=> absurd hd1 h,?_⟩,R1,F,?_⟩
  ·have:=I1.clk;have hk:=O8 I1.aC.aG he;simp only [zal,zam,zak];rw [p2];show(n1.aC.touch _).dH<=_;omega
  ·simp only [zal,zam,zak];exact Jj (p:=n1.bW) hb1 rfl
 rw [if_neg c3];by_cases c4:n1.aC.full (c.bn o.addr)=true
 ·rw [if_pos c4];have hset:n1.aC.oM (c.bn o.addr)≠[]:=by
   intro e;unfold Cache.full at c4;simp only [e,zak,zae,decide_eq_true_eq] at c4;have:=(jY hc).2.2.2.2.1;rw [I1.aC.ways] at c4;omega
  obtain⟨e,he⟩:∃e,mW (n1.aC.oM (c.bn o.addr))=some e:=by
   cases h:n1.aC.oM (c.bn o.addr) with
   | nil=> exact absurd h hset
   | cons a l=> exact⟨_,rfl⟩
  have hv:n1.aC.wR (c.bn o.addr)=some e.aj:=by unfold Cache.wR;rw [he];rfl
  have hem:e∈n1.aC.l:=by
   have:=(oN he).1;unfold Cache.oM at this;exact(za6.1 this).1
  have E:=I1.aC.ent e hem;rw [hv];simp only [zax];exact lift (xU I1 R1 F ⟨by decide,by decide⟩ E.lo E.hi hb1 λh=> absurd rfl h)
 rw [if_neg c4];have c4':n1.aC.full (c.bn o.addr)=false:=by simpa using c4
 by_cases c5:o.aS=1
 ·rw [if_pos c5];exact lift (xU I1 R1 F ⟨by decide,by decide⟩ O.lo O.hi hb1 λ_=> ⟨⟨o,ho1,rfl,λ_=> c5,λh=> by omega⟩,c4'⟩)
 ·rw [if_neg c5];have k1:=O.k1;have k4:=O.k4;exact lift (xU I1 R1 F ⟨by decide,by decide⟩ O.lo O.hi hb1 λ_=> ⟨⟨o,ho1,rfl,λh=> by omega,λ_=> by omega⟩,c4'⟩)
theorem Xp(hc:c.ok=true)(I:aaT c me n)(R:uK c me n.home)(F:Gh c f){p:Pkt}(Q:yV c p):ace c me n t ((n.asked c me f p).1,(n.asked c me f p).2,t):=by
 unfold Node.asked;by_cases hk:p.aS=1∨p.aS=2
 ·rw [if_pos hk];have h3:=TF hc I.home R p;have hr:=O7 (c:=c) (me:=me) I.dF Q.num;have hok:=TG hc R I.dF p;cases hA:n.home.handle c me p with
  | mk h x=>
   rw [hA] at h3 hr hok;obtain⟨out,ok,e⟩:=x;simp only at h3 hr hok ⊢;refine⟨⟨I.bW,I.aC,hr,h3.1,λhs=> ?_,I.clk⟩,h3.2,?_,rfl⟩
   ·have D:=I.aF hs;exact⟨D.lo,D.hi,D.aS,D.dat,D.ac3,D.roll,λa b=> by have W:=D.work a b;exact⟨W.eG,W.op,W.full⟩,D.rest⟩
   ·simp only;split
    ·exact F.send hok
    ·exact F
 ·rw [if_neg hk];obtain⟨i1,i2,i3,i4⟩:=Xm I.aC p;cases hA:qj n.aC p with
  | mk ca x=>
   rw [hA] at i1 i2 i3 i4;obtain⟨out,e⟩:=x;simp only at i1 i2 i3 i4 ⊢;refine⟨⟨I.bW,i1,I.dF,I.home,λhs=> ?_,by simp only;rw [i3];exact I.clk⟩,R,?_,rfl⟩
   ·have D:=I.aF hs;exact⟨D.lo,D.hi,D.aS,D.dat,D.ac3,D.roll,λa b=> by have W:=D.work a b;exact⟨W.eG,W.op,i4 _ hc W.full⟩,D.rest⟩
   ·simp only;split
    ·exact F.send i2
    ·exact F
theorem ZA(hc:c.ok=true)(I:aaT c me n)(R:uK c me n.home)(F:Gh c f):ace c me n t (n.step c me f t).1:=by
 unfold Node.step;obtain⟨t1,t2⟩:=F.take me false;cases h1:f.take me false with
 | mk f' x=>
  rw [h1] at t1 t2;cases x with
  | some p=> exact LP hc I R t1 (t2 p rfl)
  | none=>
   simp only;by_cases hg:n.home.ready≠[]/\f.roomOf me false≠0
   ·rw [if_pos hg];obtain⟨g3,g4⟩:=Xo I.home R;refine⟨⟨I.bW,I.aC,?_,g3,λhs=> ?_,I.clk⟩,g4,F.send ?_,rfl⟩
    ·have:(n.home.grant me).1.dF=n.home.dF:=by
      unfold Home.grant;cases n.home.ready with
      | nil=> rfl
      | cons aj l=>
       simp only;cases n.home.aT.next aj with
       | mk tt w=> cases w <;> rfl
     simp only;rw [this];exact I.dF
    ·have D:=I.aF hs;exact⟨D.lo,D.hi,D.aS,D.dat,D.ac3,D.roll,λa b=> by have W:=D.work a b;exact⟨W.eG,W.op,W.full⟩,D.rest⟩
    ·unfold Home.grant;cases hr:n.home.ready with
     | nil=> exact absurd hr hg.1
     | cons aj l=>
      have hm:=(xk hr).2.2;have hh:jS c me aj=true:=by
       obtain⟨e,he,rfl⟩:=zaD.1 hm;exact I.home.here e he
      simp only;cases n.home.aT.next aj with
      | mk tt w=>
       cases w with
       | none=> exact uw rfl (by simp [Pkt.zero])
       | some w=> exact Ep R I.dF hh _ _
   ·rw [if_neg hg];obtain⟨u1,u2⟩:=F.take me true;cases hx:(if f.roomOf me false=0 then(f,none) else f.take me true:Fab × Option Pkt) with
    | mk f2 y=>
     cases y with
     | some p=>
      simp only;have ht:f.take me true=(f2,some p):=by
       split at hx
       ·cases hx
       ·exact hx
      rw [ht] at u1 u2;exact Xp hc I R u1 (u2 p rfl)
     | none=>
      simp only;cases hcu:n.bW.cur with
      | none=> exact⟨I,R,F,rfl⟩
      | some o=>
       simp only;by_cases hd:n.aF.step=0
       ·rw [if_pos hd];exact Zz hc I R F hcu hd
       ·rw [if_neg hd];exact⟨I,R,F,rfl⟩
end
def ZB(m:bH):Prop:=∀(i:Nat) n,m.au[i]?=some n->uK m.c i n.home
theorem Xq {m:bH}(I:ah4 m)(R:ZB m)(i:Int):ah4 (m.step i).1/\ZB (m.step i).1:=by
 unfold bH.step bH.dG;by_cases h0:0<=i
 ·rw [if_pos h0];cases hn:m.au[i.toNat]? with
  | none=> exact⟨I,R⟩
  | some n=>
   have hi:=(zah.1 hn).1;have hii:((i.toNat:Nat):Int)=i:=by omega
   have NI:=I.dG i.toNat n hn;have NR:=R i.toNat n hn;rw [hii] at NI NR;have b1:=ZA (t:=m.trace) I.ok NI NR I.fab;simp only;generalize n.step m.c i m.fab m.trace=r at b1;obtain⟨⟨n',f',t'⟩,k⟩:=r;refine⟨⟨I.ok,by simp only [zbX];exact I.len,b1.fab,λj a ha=> ?_,?_⟩,λj a ha=> ?_⟩
   ·simp only at ha ⊢;by_cases hj:j=i.toNat
    ·subst hj;rw [zba hi] at ha;cases ha;rw [hii];exact b1.inv
    ·rw [zbg (λe=> hj e.symm)] at ha;exact I.dG j a ha
   ·have e1:=Xn Node.evs (a':=n') hn;have e2:=b1.evs;have e3:=I.evs;simp only at e2 ⊢;omega
   ·simp only at ha ⊢;by_cases hj:j=i.toNat
    ·subst hj;rw [zba hi] at ha;cases ha;rw [hii];exact b1.dF
    ·rw [zbg (λe=> hj e.symm)] at ha;exact R j a ha
 ·rw [if_neg h0];exact⟨I,R⟩
def DX(f:Fab):Prop:=∀p∈f.l,∀q,q∈p.rq∨q∈p.an->f.is q.dst=true
theorem ah5(f:Fab)(i:Int)(p:Port)(k:Int):(f.put i p).is k=f.is k:=by
 unfold Fab.is Fab.put;simp
theorem DX.put {f:Fab}(D:DX f)(i:Int){p:Port}(h:∀q,q∈p.rq∨q∈p.an->f.is q.dst=true):DX (f.put i p):=by
 intro x hx q hq;rw [ah5];unfold Fab.put at hx;rcases zbG hx with hx | rfl
 ·exact D x hx q hq
 ·exact h q hq
theorem DX.at {f:Fab}(D:DX f)(i:Int):∀q,q∈(f.port i).rq∨q∈(f.port i).an->f.is q.dst=true:=by
 intro q hq;unfold Fab.port at hq;rw [zaq] at hq;cases h:f.l[i.toNat]? with
 | none=> rw [h] at hq;simp [Port.zero] at hq
 | some p=> rw [h] at hq;exact D p (zat h) q hq
theorem DX.send {f:Fab}(D:DX f)(p:Pkt):DX (f.send p).1:=by
 unfold Fab.send;split
 ·exact D
 ·rename_i hc;split
  ·exact D
  ·refine D.put _ λq hq=> ?_;have hd:f.is p.dst=true:=by
    cases h:f.is p.dst with
    | true=> rfl
    | false=> simp [h] at hc
   cases hk:wQ p.aS with
   | true=>
    rw [hk] at hq;simp only [Port.lF,Port.sort,if_true,zaO,zaI] at hq;rcases hq with(hq | rfl) | hq
    ·exact D.at _ q (.inl hq)
    ·exact hd
    ·exact D.at _ q (.inr hq)
   | false=>
    rw [hk] at hq;simp only [Port.lF,Port.sort,zaj,if_false,zaO,zaI] at hq;rcases hq with hq | hq | rfl
    ·exact D.at _ q (.inl hq)
    ·exact D.at _ q (.inr hq)
    ·exact hd
theorem DX.yO {f:Fab}(D:DX f)(i:Int)(req:Bool)(l:List Pkt):DX (f.put i ((f.port i).yO req l)):=by
 refine D.put _ λq hq=> D.at i q ?_;cases req <;> exact hq
theorem DX.take {f:Fab}(D:DX f)(i:Int)(req:Bool):DX (f.take i req).1:=by
 unfold Fab.take;split
 ·split
  ·exact D
  ·exact D.yO _ _ _
 ·exact D
theorem DX.all {f:Fab}(D:DX f):∀p∈f.all,f.is p.dst=true:=by
 intro p hp;unfold Fab.all at hp;obtain⟨q,hq,hp⟩:=za8.1 hp;rcases zaO.1 hp with hp | hp
 ·exact D q hq p (.inl hp)
 ·exact D q hq p (.inr hp)
theorem DX.new(c:Cfg):DX (.new c):=by
 intro p hp q hq;rw [Fab.new,List.mem_replicate] at hp;rw [hp.2] at hq;simp [Port.zero] at hq
theorem xW(c:Cfg)(me aj:Int):∀n:Nat,jq (c.iO me n) aj=if 0<=aj/\aj < n/\c.aQ aj=me then some ⟨0,-1,c.first aj⟩ else none
 | 0=> by
  have:¬(0<=aj/\aj < ((0:Nat):Int)/\c.aQ aj=me):=by omega
  rw [if_neg this];rfl
 | n+1=> by
  simp only [Cfg.iO];by_cases h:c.aQ n=me
  ·rw [if_pos h,fO,xW c me aj n];by_cases e:(n:Int)=aj
   ·subst e;rw [if_pos rfl,if_pos ⟨by omega,by omega,h⟩]
   ·rw [if_neg e];by_cases h2:0<=aj/\aj < n/\c.aQ aj=me
    ·rw [if_pos h2,if_pos ⟨h2.1,by omega,h2.2.2⟩]
    ·rw [if_neg h2,if_neg (λh3=> h2 ⟨h3.1,by omega,h3.2.2⟩)]
  ·rw [if_neg h,xW c me aj n];by_cases h2:0<=aj/\aj < n/\c.aQ aj=me
   ·rw [if_pos h2,if_pos ⟨h2.1,by omega,h2.2.2⟩]
   ·rw [if_neg h2,if_neg (λh3=> h2 ⟨h3.1,(by
     have:aj≠n:=λe=> h (by rw [<-e];exact h3.2.2);omega),h3.2.2⟩)]
structure NX(T:Nat)(n:Node):Prop where
 Uk:0<=n.num
 num1:n.num < 4096
 dat:n.aF.data.length<=4
 ws:∀aj,(n.home.aT.ws aj).length<=T
theorem NX.mono {T T':Nat}{n:Node}(h:NX T n)(hT:T<=T'):NX T' n:=⟨h.Uk,h.num1,h.dat,λl=> zaC (h.ws l) hT⟩
section
variable {d:dL}{ca:Cache}{p:Pkt}{me:Int}
theorem Rl(hc:∀e∈ca.l,e.data.length<=4){aj:Int}{e:Ent}(h:ca.find aj=some e):e.data.length<=4:=by
 unfold Cache.find at h;exact hc e (zbH h)
theorem Xr(hd:d.data.length<=4)(hp:p.data.length<=4):(iI d me ca p).2.1.data.length<=4:=by
 unfold iI vP
 repeat' split
 all_goals first
  | exact hd
  | exact hp
  | exact zaR _
  | (show List.length (if _ then _ else _)<=4;split <;> first | exact hp | exact zaR _)
theorem Ac(hd:d.data.length<=4):(fZ d me ca).2.data.length<=4:=by
 unfold fZ;simp only
 repeat' split
 all_goals first
  | exact hd
  | exact zaR _
theorem ZC(hc:∀e∈ca.l,e.data.length<=4)(hd:d.data.length<=4)(hp:p.data.length<=4):(jy d me ca p).2.1.data.length<=4:=by
 unfold jy vP;split
 ·exact zaR _
 split
 ·refine Ac ?_;cases h:ca.find d.aj with
  | none=> exact hp
  | some e=> exact Rl hc h
 split
 ·refine Ac ?_;cases h:ca.find d.aj with
  | none=> exact hp
  | some e=> exact hd
 split
 ·exact hd
 ·exact zaR _
theorem ad9(hc:∀e∈ca.l,e.data.length<=4)(hd:d.data.length<=4):(kE d ca p).2.1.data.length<=4:=by
 unfold kE vP pq;split
 ·exact zaR _
 split
 ·simp only;split
  ·exact zaR _
  ·rename_i e h;split
   ·show List.length (if e.bG=true then e.data else [])<=4;split
    ·exact Rl hc h
    ·exact zaR _
   ·split <;> exact zaR _
 repeat' split
 all_goals first
  | exact hd
  | exact zaR _
end
section
variable {T:Nat}{n:Node}{c:Cfg}{me:Int}{f:Fab}{t:List Evn}
theorem Xt(h:NX T n)(v:Int):NX T (n.done me t v).1:=⟨h.Uk,h.num1,h.dat,h.ws⟩
theorem LQ(h:NX T n):NX T (n.effect c me t).1:=⟨h.Uk,h.num1,h.dat,h.ws⟩
theorem BJ(h:NX T n)(aS aj:Int):NX T (n.begin_ c me f aS aj).1:=by
 have h0:=h.Uk;have h1:(n.num+1).tmod 4096=(n.num+1) % 4096:=zcd (by omega);refine⟨?_,?_,zaR _,h.ws⟩
 ·show 0<=(n.num+1).tmod 4096;omega
 ·show(n.num+1).tmod 4096 < 4096;omega
theorem BK {n:Node}(h:DX f)(aS aj:Int):DX (n.begin_ c me f aS aj).2:=h.send _
theorem Xu {n:Node}(h:DX f):DX (n.acY c me f):=h.send _
theorem Rn(hc:∀e∈n.aC.l,e.data.length<=4)(h:NX T n){p:Pkt}(hp:p.data.length<=4):(n.after me p).2.1.data.length<=4:=by
 unfold Node.after vP
 repeat' split
 ·exact Xr h.dat hp
 ·exact ZC hc h.dat hp
 ·exact ad9 hc h.dat
 ·exact zaR _
theorem TK(hc:∀e∈n.aC.l,e.data.length<=4)(h:NX T n)(D:DX f){p:Pkt}(hp:p.data.length<=4):NX T (n.answered c me f t p).1/\DX (n.answered c me f t p).2.1:=by
 have hd:=Rn (me:=me) hc h hp;unfold Node.answered;split;rename_i ca d ok e;rw [e] at hd;have h1:NX T { n with aC:=ca,aF:=d }:=⟨h.Uk,h.num1,hd,h.ws⟩
 split
 ·exact⟨⟨h.Uk,h.num1,h.dat,h.ws⟩,D⟩
 ·simp only;split
  ·split
   ·exact⟨Xt (me:=me) (t:=t) h1 0,D⟩
   ·exact⟨h1,D⟩
  ·split
   ·exact⟨LQ (c:=c) (me:=me) (t:=t) h1,Xu D⟩
   ·exact⟨h1,Xu D⟩
theorem acf {t:Turns}(h:∀aj,(t.ws aj).length<=T)(aj who id:Int):∀l,((t.ask aj who id).1.ws l).length<=T+1:=by
 intro l;unfold Turns.ask;split
 ·exact zbs (h l)
 split
 ·unfold Turns.ws;simp only;rw [fO];split
  ·rw [zax,zal];exact Nat.succ_le_succ (h aj)
  ·exact zbs (h l)
 ·exact zbs (h l)
theorem TL {t:Turns}(h:∀aj,(t.ws aj).length<=T)(aj who:Int):∀l,((t.release aj who).1.ws l).length<=T:=by
 intro l;unfold Turns.release;split <;> exact h l
theorem aea {t:Turns}(h:∀aj,(t.ws aj).length<=T)(aj:Int):∀l,((t.next aj).1.ws l).length<=T:=by
 intro l;unfold Turns.next
 split
 ·exact h l
 split
 ·exact h l
 ·rename_i w ws e;have hh:=h aj;rw [e] at hh;unfold Turns.ws;simp only;rw [fO];split
  ·rw [zax];exact Nat.le_of_succ_le hh
  ·exact h l
theorem Xv {hm:Home}(h:∀aj,(hm.aT.ws aj).length<=T)(p:Pkt):∀l,((hm.handle c me p).1.aT.ws l).length<=T+1:=by
 have h':∀l,(hm.aT.ws l).length<=T+1:=λl=> zbs (h l);unfold Home.handle;split
 ·exact h'
 split
 ·exact h'
 split
 ·simp only;split
  ·exact acf h _ _ _
  ·exact acf h _ _ _
 ·have hu:∀l,((hm.unlock c p).1.aT.ws l).length<=T+1:=by
   unfold Home.unlock;split
   ·exact h'
   ·simp only;generalize rG c hm.dF p.aj p.aW p.ptr (if p.flag then p.data else [])=r;split
    ·exact λl=> zbs (TL h _ _ l)
    ·exact h'
  simp only;split <;> exact hu
theorem ZE {hm:Home}(h:∀aj,(hm.aT.ws aj).length<=T):∀l,((hm.grant me).1.aT.ws l).length<=T:=by
 unfold Home.grant;split
 ·exact h
 ·rename_i aj _ _;have hn:=aea h aj;split
  ·rename_i e;rw [e] at hn;exact hn
  ·exact h
theorem aeb(h:NX T n)(D:DX f)(p:Pkt):NX (T+1) (n.asked c me f p).1/\DX (n.asked c me f p).2:=by
 unfold Node.asked;split
 ·have hw:=Xv (c:=c) (me:=me) h.ws p;split;rename_i hm out ok e he;rw [he] at hw;refine⟨⟨h.Uk,h.num1,h.dat,hw⟩,?_⟩;simp only;split
  ·exact D.send _
  ·exact D
 ·split;refine⟨⟨h.Uk,h.num1,h.dat,λl=> zbs (h.ws l)⟩,?_⟩;simp only;split
  ·exact D.send _
  ·exact D
theorem ah6(h:NX T n)(D:DX f)(o:Opn):NX T (n.work c me f t o).1/\DX (n.work c me f t o).2.1:=by
 have h1:NX T { n with bW:={ n.bW with eG:=true } }:=⟨h.Uk,h.num1,h.dat,h.ws⟩
 unfold Node.work;simp only;split
 ·exact⟨Xt (me:=me) (t:=t) h1 0,D⟩
 split
 ·exact⟨BJ (c:=c) (me:=me) (f:=f) h1 _ _,BK D _ _⟩
 split
 ·exact⟨LQ (c:=c) (me:=me) (t:=if n.bW.eG then t else t++[⟨me,n.bW.bf.length,false,0⟩]) ⟨h.Uk,h.num1,h.dat,h.ws⟩,D⟩
 split
 ·exact⟨BJ (c:=c) (me:=me) (f:=f) h1 _ _,BK D _ _⟩
 split
 ·exact⟨BJ (c:=c) (me:=me) (f:=f) h1 _ _,BK D _ _⟩
 ·exact⟨BJ (c:=c) (me:=me) (f:=f) h1 _ _,BK D _ _⟩
theorem acg(hc:∀e∈n.aC.l,e.data.length<=4)(hf:∀i req p,(f.take i req).2=some p->p.data.length<=4)(h:NX T n)(D:DX f):NX (T+1) (n.step c me f t).1.1/\DX (n.step c me f t).1.2.1:=by
 have h':=h.mono (zbk T);unfold Node.step;split
 ·rename_i f' p e;have D':=D.take me false;have hp:=hf me false p (by rw [e]);rw [e] at D';obtain⟨a,b⟩:=TK (c:=c) (me:=me) (t:=t) hc h' D' hp;exact⟨a,b⟩
 ·split
  ·exact⟨⟨h.Uk,h.num1,h.dat,λl=> zbs (ZE h.ws l)⟩,D.send _⟩
  ·split
   ·rename_i f' p e;have D':DX f':=by
     split at e
     ·cases e
     ·have:=D.take me true;rw [e] at this;exact this
    exact aeb h D' p
   ·split
    ·split
     ·exact ah6 h' D _
     ·exact⟨h',D⟩
    ·exact⟨h',D⟩
end
structure MX(T:Nat)(m:bH):Prop where
 inv:ah4 m
 dF:ZB m
 dst:DX m.fab
 dG:∀(i:Nat) n,m.au[i]?=some n->NX T n
theorem MX.mono {T T':Nat}{m:bH}(h:MX T m)(hT:T<=T'):MX T' m:=⟨h.inv,h.dF,h.dst,λi n hn=> (h.dG i n hn).mono hT⟩
theorem DK.le {c:Cfg}(hc:c.ok=true){ca:Cache}(I:DK c ca):∀e∈ca.l,e.data.length<=4:=by
 intro e he;have h1:=(I.ent e he).dat;have h2:=(jY hc).2.2.1;have:=h1.1;omega
theorem MX.step {T:Nat}{m:bH}(X:MX T m)(i:Int):MX (T+1) (m.step i).1:=by
 obtain⟨h1,h2⟩:=Xq X.inv X.dF i;refine⟨h1,h2,?_,?_⟩
 ·unfold bH.step;split
  ·exact X.dst
  ·rename_i n hn;split;rename_i n' f t k e;unfold bH.dG at hn;split at hn
   ·rename_i hi;have NI:=X.inv.dG _ n hn;have:=(acg (c:=m.c) (me:=i) (t:=m.trace) (NI.aC.le X.inv.ok) (λi req p hp=> by
     have:=((X.inv.fab.take i req).2 p hp).ok;simp only [Pkt.ok,zae,decide_eq_true_eq] at this;omega) (X.dG _ n hn) X.dst).2
    rw [e] at this;exact this
   ·cases hn
 ·intro j n hj;unfold bH.step at hj;split at hj
  ·exact(X.dG j n hj).mono (zbk T)
  ·rename_i n0 hn;split at hj;rename_i n' f t k e;unfold bH.dG at hn;split at hn
   ·rename_i hi;simp only at hj;rw [zcQ] at hj;split at hj
    ·split at hj
     ·cases hj;have NI:=X.inv.dG _ n0 hn;have:=(acg (c:=m.c) (me:=i) (t:=m.trace) (NI.aC.le X.inv.ok) (λi req p hp=> by
       have:=((X.inv.fab.take i req).2 p hp).ok;simp only [Pkt.ok,zae,decide_eq_true_eq] at this;omega) (X.dG _ n0 hn) X.dst).1
      rw [e] at this;exact this
     ·cases hj
    ·exact(X.dG j n hj).mono (zbk T)
   ·cases hn
theorem Xw {c:Cfg}(hc:c.ok=true)(ps:List (List Opn)):ZB (.new c ps):=λi n hn aj hl=> by
 simp only [bH.new,zbY,zbP] at hn;obtain⟨l,_,rfl⟩:=hn;unfold jS at hl;simp only [zae,decide_eq_true_eq] at hl;have h1:=(jY hc).1;have h2:aj < c.aG:=hl.1.2;refine⟨⟨0,-1,c.first aj⟩,?_⟩;show jq (c.iO i c.aG.toNat) aj=_;rw [xW,if_pos ⟨hl.1.1,by omega,by unfold Cfg.aQ sO;rw [if_neg (by omega)];exact hl.2⟩]
def akE(A:Adr)(k n:Nat)(q:Nat):Prop:=(∃i s,i < k/\s < 6/\q=A.N i s)∨Xc A.P n q∨q=A.trace
section
variable {b:Nat}{H:ah}{g g':bJ}{A:Adr}{m:bH}{T:Nat}
theorem ah7 {m:bH}(I:ah4 m):m.trace.length<=1000:=by
 have B:=uo I.ok;have hl:=I.len;have:∀(l:List Node),(∀n∈l,Node.evs n<=49)->(l.map Node.evs).sum<=49*l.length:=by
  intro l
  induction l with
  | nil=> intro _;simp
  | cons n l ih=>
   intro h;have h1:=h n (by simp);have h2:=ih λx hx=> h x (by simp [hx]);simp only [zaA,zcH,zam];omega
 have h1:=this m.au λn hn=> by
  obtain⟨i,hi⟩:=zc2.1 hn;have P:=(I.dG i n hi).bW;have:=P.most;have:=P.vals;unfold Node.evs;split <;> omega
 rw [I.evs];have:=B.au;omega
def alR(A:Adr)(i:Nat):Xk:=⟨A.N i,A.fab,A.P,A.trace⟩
theorem fG.nw(M:fG g A m){i:Nat}{n:Node}(hi:m.au[i]?=some n):NW g (alR A i) m.c i (n,m.fab,m.trace):=⟨M.dG i n hi,M.fab,M.trace,M.Zc,M.tf⟩
theorem fG.len(M:fG g A m)(I:ah4 m):m.au.length=m.fab.l.length:=by
 have:=I.len;have:=I.fab.len;omega
end
theorem Good.low {b:Nat}{H H':ah}{g:bJ}(G:Good b H g)(hn:H.next<=H'.next)(hg:∀r,b<=r->H'.get r=H.get r):Good b H' g:=by
 obtain⟨h0,τ,h1⟩:=G;have os:∀{T x m cells},OS b H τ T x m cells->OS b H' τ T x m cells:=by
  intro T x m cells ho;rcases ho with ho | ⟨r,g,off,n,cap,ex,ty,all,h2,h3,h4,h5,h6,h7,h8⟩
  ·exact .inl ho
  ·exact .inr ⟨r,g,off,n,cap,ex,ty,all,h2,h3,h4,by omega,h6,by rw [hg r h4];exact h7,h8⟩
 have om:∀{T x k es},OM b H τ T x k es->OM b H' τ T x k es:=by
  intro T x k es ⟨r,h2,h3,h4,h5,h6⟩;exact⟨r,h2,h3,h4,by omega,by rw [hg r h4];exact h6⟩
 refine⟨by omega,τ,λq cs hq=> ?_⟩;have R:=h1 q cs hq;have lo:=R.lo;obtain⟨ty,xs,k1,k2,k3,k4⟩:=R.blk;refine⟨R.tag,R.lo,by have:=R.hi;omega,sJ (by rw [hg q lo];exact k1) (R.tyl _ _ _ k1),ty,xs,by rw [hg q lo];exact k1,k2,k3,λi c x hc hx=> ?_⟩;have:=k4 i c x hc hx;cases c with
 | av _=> exact this
 | seq _ _=> exact os this
 | map _ _=> exact om this
 | maps _ _ _=>
  obtain⟨aes,a1,a2,a3⟩:=this;exact⟨aes,om a1,a2,λj n cells x hj hx=> os (a3 j n cells x hj hx)⟩
 | aax _ _ _=>
  obtain⟨ys,a1,a2,a3⟩:=this;exact⟨ys,os a1,a2,λj cells x hj hx=> os (a3 j cells x hj hx)⟩
theorem fG.sub {g g':bJ}{A:Adr}{m:bH}(h:fG g A m)(hg:MO g g'):fG g' A m:=by
 refine⟨hg _ _ h.iV,hg _ _ h.trace,⟨hg _ _ h.fab.1,λi p hp=> ?_,h.fab.2.2⟩,λi n hn=> ?_,h.Zc,h.alF,h.tf⟩
 ·obtain⟨a,b,c,d⟩:=h.fab.2.1 i p hp;exact⟨hg _ _ a,hg _ _ b,hg _ _ c,hg _ _ d⟩
 ·obtain⟨a,b,c,d,e,f⟩:=h.dG i n hn;exact⟨hg _ _ a,hg _ _ b,hg _ _ c,hg _ _ d,hg _ _ e,hg _ _ f⟩
theorem Dx.sub {g g':bJ}{q f:Nat}{N:Nat->Nat->Nat}{m:jJ}(h:Dx g q f N m)(hg:MO g g'):Dx g' q f N m:=by
 have hd:∀{x l},ql g x l->ql g' x l:=λh=> h.sub λq cs hq _=> hg q cs hq;obtain⟨ls,f1,f2,f3⟩:=h.fab;refine⟨hg _ _ h.iV,⟨ls,hg _ _ f1,f2,λi l cells hl hc=> (f3 i l cells hl hc).mono λp cs _ ⟨x,a,b⟩=> ⟨x,hd a,b⟩⟩,λi n hn=> ?_,h.inj⟩;obtain⟨⟨d,⟨x,d1,d2⟩,h0⟩,⟨cells,k,h1⟩,⟨dF,r,h2⟩⟩:=h.dG i n hn;exact⟨⟨d,⟨x,hd d1,d2⟩,hg _ _ h0⟩,⟨cells,k.mono λe cs _ ⟨x,a,b⟩=> ⟨x,hd a,b⟩,hg _ _ h1⟩,⟨dF,r.mono λe cs _ ⟨x,a,b⟩=> ⟨x,hd a,b⟩,hg _ _ h2⟩⟩
theorem ZF {b n:Nat}{H1:ah}{g g':bJ}(G:Good b H1 g)(hn:H1.next=n):MO g (cup n g g'):=λq cs hq=> iW G hq hn
theorem ZG {b n:Nat}{H1:ah}{g g':bJ}(G:Good b H1 g')(hn:n<=b):MO g' (cup n g g'):=λq cs hq=> jZ G hq hn
theorem ah8 {l:List Int}(h:∀z∈l,Iu z)(i:Int):Iu (atM l i):=by
 unfold atM;split
 ·rw [zaq];cases e:l[i.toNat]? with
  | none=> exact⟨by decide,by decide⟩
  | some v=> exact h v (zat e)
 ·exact⟨by decide,by decide⟩
theorem TM {c:Cfg}(hc:c.ok=true)(zk za zv:List Int)(hv:∀z∈zv,Iu z)(i:Nat):c.right (WI c zk za zv i)=true/\I64 (WI c zk za zv i).value:=by
 have B:=uo hc;have hw:=B.aH;have hl:=B.aG;have h1:1<=mP (atM zk i)/\mP (atM zk i)<=4:=by have:=S9 (atM zk i);omega
 have h0:1<=c.aG*c.aH:=by
  have:=zbL hl.1 hw.1 (by decide) (by omega);omega
 have h2:=nX (v:=atM za i) h0;unfold WI;refine⟨?_,?_⟩
 ·unfold Cfg.right;simp only [zae,decide_eq_true_eq,zbc];refine⟨⟨⟨h1.1,h1.2⟩,?_⟩,?_⟩
  ·unfold Cfg.bn Cfg.fK;rw [if_neg (by omega)];have:=zcv h2.1 (show 0<=c.aH by omega);omega
  ·split
   ·rename_i h;rcases h with h | h
    ·exact .inl (.inr h)
    ·exact .inr h
   ·exact .inl (.inl rfl)
 ·simp only;split
  ·exact ah8 hv i
  ·exact⟨by decide,by decide⟩
theorem qX {c:Cfg}(hc:c.ok=true)(zw zk za zv:List Int)(hv:∀z∈zv,Iu z):∀i,∀l∈kP c zw zk za zv i,∀o∈l,c.right o=true/\I64 o.value
 | 0,l,h=> by
  rw [zcM h];intro o ho;cases ho
 | i+1,l,h=> by
  have ih:=qX hc zw zk za zv hv i;simp only [kP,iF] at h;split at h
  ·rcases zbG h with h | rfl
   ·exact ih l h
   ·intro o ho;rcases zaO.1 ho with ho | ho
    ·rw [zaq] at ho;cases e:(kP c zw zk za zv i)[(dw (atM zw i) c.au).toNat]? with
     | none=> rw [e] at ho;cases ho
     | some l'=> rw [e] at ho;exact ih l' (zat e) o ho
    ·rw [zaI] at ho;subst ho;exact TM hc zk za zv hv i
  ·exact ih l h
theorem ZH {c:Cfg}(hc:c.ok=true)(zw zk za zv:List Int)(hv:∀z∈zv,Iu z)(mo:Nat):c.oZ (ng c zw zk za zv mo)=true:=by
 have B:=uo hc;have hn:=B.au;unfold Cfg.oZ;simp only [zae,decide_eq_true_eq,za0];refine⟨λl hl=> ⟨y7 _ _ _ _ _ _ l hl,λo ho=> (qX hc zw zk za zv hv _ l hl o ho).1⟩,?_⟩;unfold ng;rw [nZ];omega
theorem ZI {c:Cfg}(hc:c.ok=true)(hi:∀z∈c.init,Iu z){aj:Int}(h:0<=aj/\aj < c.aG):mY c (c.first aj):=by
 have B:=uo hc;have hw:=B.aH;unfold Cfg.first
 rw [if_neg (by omega)];refine⟨by rw [zay,zcy];omega,λv hv=> ?_⟩;obtain⟨j,_,rfl⟩:=zaD.1 hv;rw [zaq];cases e:c.init[(aj*c.aH).toNat+j]? with
 | none=> exact⟨by decide,by decide⟩
 | some x=> exact hi x (zat e)
theorem Es(c:Cfg)(me:Int):∀n:Nat,∀e∈c.iO me n,0<=e.1/\e.1 < n/\e.2.data=c.first e.1
 | 0,e,h=> by cases h
 | n+1,e,h=> by
  simp only [Cfg.iO] at h;have ih:=Es c me n;split at h
  ·have key:∀(l:List (Int × Row)) (k:Int) (x:Row),e∈qA l k x->e∈l∨(e.1=k/\e.2=x):=by
    intro l
    induction l with
    | nil=>
     intro k x hx;simp only [qA,zaI] at hx;right;rw [hx];exact⟨rfl,rfl⟩
    | cons a l ih=>
     obtain⟨k',v⟩:=a;intro k x hx;simp only [qA] at hx;split at hx
     ·rename_i hk;rcases zai.1 hx with rfl | hx
      ·exact .inr ⟨by first | rfl | exact hk | exact hk.symm,rfl⟩
      ·exact .inl (zaZ _ hx)
     ·rcases zai.1 hx with rfl | hx
      ·exact .inl (List.mem_cons_self ..)
      ·rcases ih k x hx with hx | hx
       ·exact .inl (zaZ _ hx)
       ·exact .inr hx
   rcases key _ _ _ h with h | ⟨h1,h2⟩
   ·have:=ih e h;exact⟨this.1,by omega,this.2.2⟩
   ·exact⟨by omega,by omega,by rw [h2,h1]⟩
  ·have:=ih e h;exact⟨this.1,by omega,this.2.2⟩
theorem ach {c:Cfg}(hc:c.ok=true)(hi:∀z∈c.init,Iu z){ps:List (List Opn)}(hp:c.oZ ps=true)(hv:∀l∈ps,∀o∈l,c.right o=true/\I64 o.value):MX 0 (.new c ps):=by
 have B:=uo hc;have hn:=B.au;have hb:=B.aG;obtain⟨h1,h2⟩:=xM hp;refine⟨⟨hc,?_,?_,λi n hn=> ?_,?_⟩,Xw hc ps,DX.new c,λi n hn=> ?_⟩
 ·simp only [bH.new,zdh];exact h1
 ·refine⟨rfl,rfl,?_,λp hp=> ?_⟩
  ·simp only [bH.new,Fab.new,zcc];omega
  ·simp only [bH.new,Fab.new,List.mem_replicate] at hp;rw [hp.2];have:=B.out;have:=B.inn;refine⟨by show((0:Nat):Int)<=c.out;omega,by show((0:Nat):Int)<=c.out;omega,by show((0:Nat):Int)<=c.inn;omega,by show((0:Nat):Int)<=1;omega,λq hq=> by simp [Port.zero] at hq⟩
 ·simp only [bH.new,zbY,zbP] at hn;obtain⟨l,hl,rfl⟩:=hn;have hm:=zat hl;refine⟨⟨h2 l hm,hv l hm,zaR _,λh=> by cases h⟩,⟨rfl,rfl,List.Pairwise.nil,List.Pairwise.nil,λe he=> (by cases he),λaj=> ?_,zbe 0⟩,λe he=> ?_,⟨⟨List.Pairwise.nil,λe he=> (by cases he),List.Pairwise.nil,λe he=> (by cases he)⟩,λe he=> (by cases he)⟩,λh=> absurd rfl h,zbe 0⟩
  ·have:=B.ways;show(([]:List Ent).length:Int)<=c.ways;simp;omega
  ·obtain⟨r1,r2,r3⟩:=Es c i _ e he;rw [r3];exact ZI hc hi ⟨r1,by omega⟩
 ·have:∀n∈(bH.new c ps).au,Node.evs n=0:=by
   intro n hn;simp only [bH.new,List.mem_mapIdx] at hn;obtain⟨i,hi,rfl⟩:=hn;rfl
  have h0:∀l:List Node,(∀n∈l,Node.evs n=0)->(l.map Node.evs).sum=0:=by
   intro l
   induction l with
   | nil=> intro _;rfl
   | cons n l ih=>
    intro h;rw [zaA,zcH,h n (by simp),ih λx hx=> h x (by simp [hx])]
  rw [h0 _ this];rfl
 ·simp only [bH.new,zbY,zbP] at hn;obtain⟨l,hl,rfl⟩:=hn;exact⟨zbe 0,by show(0:Int) < 4096;decide,zaR _,λaj=> zac 0⟩
structure alf(s:jA)(zi zw zk za zv:List Int):Prop where
 ok:s.Ok zi zw zk za zv
 hi:aA ah.empty s.init 1 zi.length (zi.map I)
 hw:aA ah.empty s.who 1 zw.length (zw.map I)
 hk:aA ah.empty s.kinds 1 zk.length (zk.map I)
 ha:aA ah.empty s.fK 1 za.length (za.map I)
 hv:aA ah.empty s.bf 1 zv.length (zv.map I)
 hc:s.init.aJ=true/\s.who.aJ=true/\s.kinds.aJ=true/\s.fK.aJ=true/\s.bf.aJ=true
structure ah9(b:Nat)(H:ah)(g:bJ)(A:Adr)(q f:Nat)(N:Nat->Nat->Nat)(m:bH)(r:jJ)(mid:Nat):Prop where
 good:Good b H g
 base:H.base<=b
 iV:fG g A m
 off:∀x,akE A m.au.length m.fab.l.length x->mid<=x
 ref:∃g1,Dx g1 q f N r/\MO g1 g/\∀x,g1 x≠none->x < mid
theorem fG.here {g:bJ}{A:Adr}{m:bH}(M:fG g A m){x:Nat}(h:akE A m.au.length m.fab.l.length x):∃cs,g x=some cs:=by
 rcases h with⟨i,s,hi,hs,rfl⟩ | ⟨i,s,hi,hs,rfl⟩ | rfl
 ·obtain⟨n,hn⟩:∃n,m.au[i]?=some n:=⟨_,zab hi⟩
  exact(M.dG i n hn).some hs
 ·exact⟨_,oq (M.fab.port hi) hs⟩
 ·exact⟨_,M.trace⟩
theorem aec {s:jA}{zi zw zk za zv:List Int}(Z:alf s zi zw zk za zv)(H:ah)(hb:H.base<=H.next){mo:Nat}(hm:mo<=1000){c:Cfg}{ps:List (List Opn)}(hc:c=s.cfg zi)(hps:ps=ng c zw zk za zv mo):
  ∃H' A q f N g mid b,cl 8 [.agg s.cells,I mo] H=some (.tup [.ref A.iV 0 0,.ref q 0 0,.vs ps.length 1 (ps.map (vsl 3 Opn.av))],H')/\ah9 b H' g A q f N (.new c ps) (.new c ps) mid/\H.next<=b/\Step H.next H H'/\MX 0 (.new c ps)/\c.oZ ps=true:=by
 have hck:c.ok=true:=by rw [hc];exact ab5 s zi
 have hvz:∀z∈zv,Iu z:=λz hz=> aiA (Z.ok.bf.wf z hz);have hiz:∀z∈c.init,Iu z:=λz hz=> by
  rw [hc] at hz;exact aiA (Z.ok.init.wf z (zcD hz))
 have hop:c.oZ ps=true:=by rw [hps];exact ZH hck zw zk za zv hvz mo
 have X:MX 0 (.new c ps):=ach hck hiz hop (by rw [hps];exact qX hck zw zk za zv hvz _);have e1:=λH=> Ll H Z.ok Z.hi Z.hc;rw [<-hc] at e1;have e2:∀H,cl 34 [.agg s.cells,I mo] H=some (.vs ps.length 1 (ps.map (vsl 3 Opn.av)),H):=λH=> by
  obtain⟨ps',alS,e⟩:=OI H Z.ok Z.hi Z.hw Z.hk Z.ha Z.hv Z.hc (mo:=mo) hm;rw [hps,hc,<-alS];exact e
 have hall:s.cells.all AV.aJ=true:=by
  have:=Z.hc;simp only [jA.cells,zbR,zck,this,zco];rfl
 let H1:=H.new (.blk 0 24 s.cells);let H2:=H1.new (.blk 0 31 c.av);have n1:H1.next=H.next+1:=fC
 have n2:H2.next=H.next+1+1:=by simp only [H2,fC,n1]
 have b2:H2.base=H.base:=rfl;obtain⟨H3,q,f,N,g1,e3,M1,R1⟩:=OT H2 (by omega) c hck (ahJ H2 ps) hop;obtain⟨H4,A,g2,e4,M2,I2⟩:=Gp H3 (by rw [M1.base];exact zaC (by omega) M1.next) c hck (ahJ H3 ps) hop;have G:=M1.good.merge M2;have gq:H2.get (H.next+1)=.blk 0 31 c.av:=aK n1.symm;have l2:=eX gq;have l3:=eX (H:=H3) (r:=H.next+1) (c:=c) (by rw [M1.same _ (by omega)];exact gq);have ls:s.cells.length=12:=rfl;have lt:s.cells.take 12=s.cells:=rfl;have cc:(AV.agg c.av).cells=c.av:=rfl;have lc:c.av.length=8:=rfl;have hb1:H.base<=H.next+1:=by omega
 have b0:bi .neq 57 (I 0) (I 0)=some (B false):=by kernel_rfl
 have en:bi .eql 25 (.ref A.iV 0 0) zP=some (B false):=by kernel_rfl
 have hI:=I2.sub (ZG (g:=g1) M2.good (zac _));refine⟨H4,A,q,f,N,cup H3.next g1 g2,H3.next,H2.next,dU rfl rfl (alz _ _ _ _ ?_),⟨G,?_,hI,λx hx=> ?_,g1,R1,ZF M1.good rfl,λx hx=> ?_⟩,by omega,?_,X,hop⟩
 ·simp only [H1,H2] at e3 l2;simp only [Nat.reduceLT,Nat.reduceAdd,aP,xq_,hq_,ak8,aO hall,ls,lt,e1,cc,lc,hb1,e2,l2,e3,l3,e4,zar,b0,en]
 ·rw [M2.base,M1.base,b2];omega
 ·obtain⟨cs,h⟩:=I2.here hx;exact M2.good.le h
 ·cases h:g1 x with
  | none=> exact absurd h hx
  | some cs=> exact M1.good.lt h
 ·refine⟨by rw [M2.base,M1.base,b2],zaC (by omega) (zaC M1.next M2.next),λr hr=> ?_⟩;rw [M2.same r (zaw (by omega) M1.next),M1.same r (by omega)];simp only [H2,H1];rw [bg (by rw [fC];omega),bg hr]
section
variable {b:Nat}{H:ah}{g:bJ}{A:Adr}{m:bH}{T:Nat}
theorem kT(G:Good b H g)(M:fG g A m)(hc:m.c.ok=true):cl 9 [.ref A.iV 0 0] H=some (.agg m.c.av,H):=by
 have B:=uo hc;refine bC rfl rfl (alA _ _ _) ?_ (WH _);have l1:=λo=> (G.guard.new o).loads M.iV (i:=2) (n:=8) (xs:=m.c.av) (by simp [D9,SX,Cfg.av]) rfl (by decide);have e1:=λH=> qp H m.c.init (by have:=B.init;have:=B.fK;omega);have hav:m.c.av=[I m.c.au,I m.c.aG,I m.c.aH,I m.c.sets,I m.c.ways,I m.c.out,I m.c.inn,dat m.c.init]:=rfl;have cc:(AV.agg m.c.av).cells=m.c.av:=rfl;have lc:m.c.av.length=8:=rfl;have l7:m.c.av[7]?=some (dat m.c.init):=rfl;have all:=dI m.c;rw [hav] at l1 all ⊢;simp only [Nat.reduceAdd,aP,xq_,hq_,ak9,l1,e1,all]
end
structure TN(b:Nat)(H:ah)(g:bJ)(A:Adr)(m:bH)(T:Nat):Prop where
 good:Good b H g
 base:H.base<=b
 iV:fG g A m
 keep:MX T m
section
variable {b:Nat}{H:ah}{g:bJ}{A:Adr}{m:bH}{T:Nat}
theorem TN.new(R:TN b H g A m T)(o:eP):TN b (H.new o) g A m T:=⟨R.good.new o,by rw [oD];exact R.base,R.iV,R.keep⟩
theorem TN.loc(R:TN b H g A m T){ty n:Nat}{xs ys:List AV}(hx:xs.length=n)(hy:ys.length=n)(hn:0 < n)(ax:xs.all AV.aJ=true)(ay:ys.all AV.aJ=true)(ht:ty < gB:=by decide):
  ∃K,st n (.ref H.next 0 0) (.agg ys) (H.new (.blk 0 ty xs))=some (aV,K)/\TN b K (upd g H.next (ys.map Cell.av)) A m T/\lda n (.ref H.next 0 0) K=some (.agg ys,K):=by
 have G1:=R.good.newObj (ty:=ty) (xs:=xs) ax ht;obtain⟨K',t1,t2,t3,t4⟩:=G1.stores (by rw [oD];exact R.base) aY (i:=0) (n:=n) (vs:=ys) (by rw [zay,hx];omega) hy ay;have e:wO (xs.map Cell.av) 0 ys=ys.map Cell.av:=by
  unfold wO;rw [zaJ (by rw [zay,hx,hy];omega)];simp
 rw [e,Di] at t2;exact⟨K',t1,⟨t2,by rw [t3.base,oD];exact R.base,R.iV.sub ((MO.refl g).more (R.good.isNone (zac _)) _),R.keep⟩,t2.loads aY (i:=0) (n:=n) (xs:=ys) (by rw [zaM,zau (by simp [hy])]) hy hn⟩
theorem TN.fab(R:TN b H g A m T):ld (.ref A.iV 0 0) H=some (.ref A.fab 0 0,H):=R.good.load R.iV.iV (i:=0) (x:=.ref A.fab 0 0) rfl
theorem TN.trace(R:TN b H g A m T):ld (.ref A.iV 0 1) H=some (.ref A.trace 0 0,H):=R.good.load R.iV.iV (i:=1) (x:=.ref A.trace 0 0) rfl
theorem TN.guard(R:TN b H g A m T):Good b H.guard g/\fG g A m:=⟨R.good.guard,R.iV⟩
end
theorem Jk:∀(n:Nat) (l:List Nat),l.Nodup->(∀x∈l,x < n)->l.length<=n
 | 0,[],_,_=> zac _
 | 0,x::l,_,h=> absurd (h x (by simp)) (Nat.not_lt_zero x)
 | n+1,l,hn,h=> by
  by_cases hm:n∈l
  ·have h1:=Jk n (l.erase n) (hn.erase n) λx hx=> by
    have h2:=(hn.mem_erase_iff).1 hx;have:=h x h2.2;have:=h2.1;omega
   rw [List.length_erase_of_mem hm] at h1;omega
  ·have:=Jk n l hn λx hx=> by
    have:=h x hx;have:x≠n:=λe=> hm (by rw [<-e];exact hx);omega
   omega
theorem ZJ {c:Cfg}(hc:c.ok=true){ca:Cache}(I:DK c ca):ca.l.length<=12:=by
 have h8:=(jY hc).2.1;have h:=Jk 8 (ca.l.map λe=> e.aj.toNat) (by
  unfold List.Nodup;rw [zb0];refine I.aG.imp_of_mem λ{a b} ha hb hab e=> hab ?_;have:=(I.ent a ha).lo;have:=(I.ent b hb).lo;omega) λx hx=> by
   obtain⟨e,he,rfl⟩:=zaD.1 hx;have:=(I.ent e he).lo;have:=(I.ent e he).hi;omega
 rw [zay] at h;omega
def alg(A:Adr)(k n:Nat)(q:Nat):Prop:=akE A k n q∨q=A.iV∨q=A.fab
section
variable {b:Nat}{H:ah}{g g':bJ}{A A':Adr}{m:bH}{T mid:Nat}
structure Two(b:Nat)(H:ah)(g:bJ)(A A':Adr)(m:bH)(T mid:Nat):Prop where
 good:Good b H g
 base:H.base<=b
 one:fG g A m
 two:fG g A' m
 keep:MX T m
 lo:∀x,alg A m.au.length m.fab.l.length x->x < mid
 hi:∀x,alg A' m.au.length m.fab.l.length x->mid<=x
theorem Two.run(R:Two b H g A A' m T mid):TN b H g A m T:=⟨R.good,R.base,R.one,R.keep⟩
theorem Two.loc(R:Two b H g A A' m T mid){ty n:Nat}{xs ys:List AV}(hx:xs.length=n)(hy:ys.length=n)(hn:0 < n)(ax:xs.all AV.aJ=true)(ay:ys.all AV.aJ=true)(ht:ty < gB:=by decide):
  ∃K,st n (.ref H.next 0 0) (.agg ys) (H.new (.blk 0 ty xs))=some (aV,K)/\Two b K (upd g H.next (ys.map Cell.av)) A A' m T mid/\lda n (.ref H.next 0 0) K=some (.agg ys,K):=by
 obtain⟨K,e,R1,l⟩:=R.run.loc hx hy hn ax ay ht;exact⟨K,e,⟨R1.good,R1.base,R1.iV,R.two.sub ((MO.refl g).more (R.good.isNone (zac _)) _),R.keep,R.lo,R.hi⟩,l⟩
end
abbrev pG:=Int->Option Ent
def hdI:List Int->Int->Int
 | [],x=> x
 | i::_,_=> i
def lH:List Int->Int->Int
 | [],x=> x
 | i::l,_=> lH l i
def Chn(E:pG):Int->List Int->Int->Prop
 | _,[],_=> True
 | b,i::l,x=> (∃e,E i=some e/\e.back=b/\e.fwd=hdI l x)/\Chn E i l x
def FCh(E:pG):List Int->Prop
 | []=> True
 | i::l=> (∃e,E i=some e/\e.fwd=hdI l (-1))/\FCh E l
def lM(E:pG)(i:Int)(x:Option Ent):pG:=λj=> if j=i then x else E j
theorem dZ {E:pG}{i:Int}{x:Option Ent}:lM E i x i=x:=by simp [lM]
theorem dN {E:pG}{i j:Int}{x:Option Ent}(h:j≠i):lM E i x j=E j:=by simp [lM,h]
theorem TP {l l':List Int}{x:Int}:hdI (l++l') x=hdI l (hdI l' x):=by cases l <;> rfl
theorem Ad:∀{l l':List Int} {x:Int},lH (l++l') x=lH l' (lH l x)
 | [],_,_=> rfl
 | i::l,l',x=> by simp only [zbf,lH];exact Ad
theorem Et:∀{l:List Int} {x:Int},l≠[]->lH l x∈l
 | [],_,h=> absurd rfl h
 | [i],_,_=> by simp [lH]
 | i::j::l,x,_=> by
  simp only [lH];have:=Et (l:=j::l) (x:=i) (by simp);simp only [lH] at this;exact zaZ _ this
theorem Chn.ext {E E':pG}:∀{l:List Int} {b x:Int},(∀j∈l,E' j=E j)->Chn E b l x->Chn E' b l x
 | [],_,_,_,_=> trivial
 | i::l,b,x,h,⟨⟨e,h1,h2⟩,hc⟩=> ⟨⟨e,by rw [h i (by simp),h1],h2⟩,Chn.ext (λj hj=> h j (by simp [hj])) hc⟩
theorem FCh.ext {E E':pG}:∀{l:List Int},(∀j∈l,E' j=E j)->FCh E l->FCh E' l
 | [],_,_=> trivial
 | i::l,h,⟨⟨e,h1,h2⟩,hc⟩=> ⟨⟨e,by rw [h i (by simp),h1],h2⟩,FCh.ext (λj hj=> h j (by simp [hj])) hc⟩
theorem Chn.fch {E:pG}:∀{l:List Int} {b:Int},Chn E b l (-1)->FCh E l
 | [],_,_=> trivial
 | _::_,_,⟨⟨e,h1,_,h3⟩,hc⟩=> ⟨⟨e,h1,h3⟩,Chn.fch hc⟩
theorem nM {E:pG}:∀{l l':List Int} {b x:Int},Chn E b (l++l') x↔Chn E b l (hdI l' x)/\Chn E (lH l b) l' x
 | [],_,_,_=> by simp [Chn,lH]
 | i::l,l',b,x=> by
  simp only [zbf,Chn,lH,nM (l:=l),TP,and_assoc]
theorem Chn.mem {E:pG}:∀{l:List Int} {b x:Int},Chn E b l x->∀j∈l,∃e,E j=some e
 | i::l,_,_,⟨⟨e,h1,_⟩,hc⟩,j,hj=> by
  rcases zai.1 hj with rfl | h
  ·exact⟨e,h1⟩
  ·exact Chn.mem hc j h
theorem FCh.mem {E:pG}:∀{l:List Int},FCh E l->∀j∈l,∃e,E j=some e
 | i::l,⟨⟨e,h1,_⟩,hc⟩,j,hj=> by
  rcases zai.1 hj with rfl | h
  ·exact⟨e,h1⟩
  ·exact FCh.mem hc j h
theorem Chn.Xx {E:pG}{i b b' x:Int}{l:List Int}{e:Ent}(h:Chn E b (i::l) x)(hn:i∉l)(he:E i=some e){e':Ent}(hb:e'.back=b')(hf:e'.fwd=e.fwd):Chn (lM E i (some e')) b' (i::l) x:=by
 obtain⟨⟨e0,h1,_,h3⟩,hc⟩:=h;rw [he] at h1;cases h1;exact⟨⟨e',dZ,hb,by rw [hf,h3]⟩,hc.ext λj hj=> dN λe=> hn (e ▸ hj)⟩
theorem Chn.aia {E:pG}{k b x y:Int}{l:List Int}{e:Ent}(h:Chn E b (l++[k]) x)(hn:k∉l)(he:E k=some e){e':Ent}(hb:e'.back=e.back)(hf:e'.fwd=y):Chn (lM E k (some e')) b (l++[k]) y:=by
 obtain⟨h1,h2⟩:=nM.1 h;refine nM.2 ⟨Chn.ext (λj hj=> dN λe=> hn (e ▸ hj)) h1,?_⟩;obtain⟨⟨e0,h3,h4,_⟩,_⟩:=h2;rw [he] at h3;cases h3;exact⟨⟨e',dZ,by rw [hb,h4],by rw [hf];rfl⟩,trivial⟩
def Rng(N:Int)(l:List Int):Prop:=l.Nodup/\∀i∈l,0<=i/\i < N
theorem Rng.hd {N:Int}{l:List Int}(h:Rng N l)(hl:l≠[]):hdI l (-1)∈l/\0<=hdI l (-1):=by
 cases l with
 | nil=> exact absurd rfl hl
 | cons i l=> exact⟨by simp [hdI],(h.2 i (by simp)).1⟩
theorem Rng.Xy {N:Int}{l:List Int}(h:Rng N l):hdI l (-1)=-1↔l=[]:=by
 constructor
 ·intro e;refine Classical.byContradiction λhn=> ?_;have:=(h.hd hn).2;omega
 ·rintro rfl;rfl
structure Wf(N:Int)(E:pG)(r:Row)(v:List Int)(l:List Int):Prop where
 rng:Rng N l
 ch:Chn E (-1) l (-1)
 mem:∀i e,E i=some e->i∈l
 head:r.head=hdI l (-1)
 st:r.aW=0∨r.aW=1∨r.aW=2
 st0:r.aW=0↔l=[]
 st2:r.aW=2->∃i,l=[i]
 bG:∀i e,E i=some e->(e.bG=true↔r.aW=2)
 data:∀i e,E i=some e->e.data=v
 zo:r.aW≠2->r.data=v
structure aed(N:Int)(E:pG)(v:List Int)(i:Int)(R:List Int):Prop where
 rng:Rng N R
 ch:FCh E R
 mem:∀j e,E j=some e->j∈R∨j=i
 data:∀j e,E j=some e->e.data=v
 only:∀j e,E j=some e->e.bG=true->∀k,E k≠none->k=j
structure Mid(N:Int)(E:pG)(r:Row)(v:List Int)(i:Int)(pre post:List Int):Prop where
 rng:Rng N (pre++i::post)
 mem:∀j e,E j=some e->j∈pre++i::post
 ent:∃e,E i=some e
 head:r.head=hdI (pre++i::post) (-1)
 st:r.aW=1
 bG:∀j e,E j=some e->e.bG=false
 data:∀j e,E j=some e->e.data=v
 zo:r.data=v
inductive Out where
 | idle
 | req (p:Pkt)
 | wait
 | ans (p:Pkt)
def gG(r:Row)(d:dL):Row:=⟨d.aW,d.head,if d.data=[] then r.data else d.data⟩
inductive Hold (N hm:Int) (E:pG) (r:Row) (v:List Int) (i:Int) (d:dL):Out->Prop
 | granted {l:List Int}:d.step=1->Wf N E r v l->Hold N hm E r v i d (.ans ⟨7,hm,i,d.id,d.aj,r.head,r.aW,false,r.data⟩)
 | attach {l:List Int}:d.step=2->d.aS=1->l≠[]->d.head=hdI l (-1)->Wf N E r v l->Hold N hm E r v i d (.req (d.ask i hm))
 | attached {l:List Int} {fl:Bool}:d.step=2->d.aS=1->l≠[]->d.head=hdI l (-1)->Rng N l->Chn E i l (-1)->(∀j e,E j=some e->j∈l)->(∀j e,E j=some e->e.bG=false)->(∀j e,E j=some e->e.data=v)->
   (fl=false->r.data=v)->Hold N hm E r v i d (.ans ⟨9,d.head,i,d.id,d.aj,0,0,fl,v⟩)
 | EX {R:List Int}:d.step=3->d.aS=2->aed N E v i (d.next::R)->d.next≠i->(E i≠none->d.data=v)->Hold N hm E r v i d (.req (d.ask i hm))
 | Eu {R:List Int} {fl:Bool}:d.step=3->d.aS=2->aed N E v i R->(∀j e,E j=some e->e.bG=false)->(E i≠none->d.data=v)->Hold N hm E r v i d (.ans ⟨9,d.next,i,d.id,d.aj,hdI R (-1),0,fl,v⟩)
 | front {pre post:List Int}:d.step=4->d.aS=3->Mid N E r v i pre post->pre≠[]->Chn E (-1) (pre++i::post) (-1)->d.head=lH pre (-1)->d.next=hdI post (-1)->d.told=r.head->Hold N hm E r v i d (.req (d.ask i hm))
 | wB {pre post:List Int}:d.step=4->d.aS=3->Mid N E r v i pre post->pre≠[]->Chn E (-1) pre (hdI post (-1))->Chn E i post (-1)->d.head=lH pre (-1)->d.next=hdI post (-1)->d.told=r.head->
   Hold N hm E r v i d (.ans ⟨8,d.head,i,d.id,d.aj,0,0,false,[]⟩)
 | behind {pre post:List Int}:d.step=5->d.aS=3->Mid N E r v i pre post->post≠[]->Chn E (-1) pre (hdI post (-1))->Chn E i post (-1)->d.head=lH pre (-1)->d.next=hdI post (-1)->d.told=r.head->Hold N hm E r v i d (.req (d.ask i hm))
 | qY {pre post:List Int}:d.step=5->d.aS=3->Mid N E r v i pre post->post≠[]->Chn E (-1) pre (hdI post (-1))->Chn E (lH pre (-1)) post (-1)->d.head=lH pre (-1)->d.next=hdI post (-1)->d.told=r.head->
   Hold N hm E r v i d (.ans ⟨8,d.next,i,d.id,d.aj,0,0,false,[]⟩)
 | unlock {l:List Int}:d.step=6->Wf N E (gG r d) v l->Hold N hm E r v i d (.req (d.ask i hm))
section
variable {N hm:Int}{E:pG}{r:Row}{v:List Int}{i:Int}{d:dL}
theorem LU {l:List Int}(h1:d.step=2)(h2:d.aS=1)(hl:l≠[])(hh:d.head=hdI l (-1))(W:Wf N E r v l):
  ∃e,E d.head=some e/\Hold N hm (lM E d.head (some { e with bG:=false,back:=i })) r v i d (.ans ⟨9,d.head,i,d.id,d.aj,0,0,e.bG,e.data⟩):=by
 cases l with
 | nil=> exact absurd rfl hl
 | cons k l=>
  have hk:d.head=k:=hh;obtain⟨⟨e,he,_⟩,_⟩:=W.ch;refine⟨e,by rw [hk];exact he,?_⟩;have hz:Out.ans ⟨9,d.head,i,d.id,d.aj,0,0,e.bG,e.data⟩=.ans ⟨9,d.head,i,d.id,d.aj,0,0,e.bG,v⟩:=by rw [W.data k e he]
  rw [hz];have hn:k∉l:=(zaW.1 W.rng.1).1;have nd:∀j e',lM E d.head (some { e with bG:=false,back:=i }) j=some e'->(j=k/\e'={ e with bG:=false,back:=i })∨(j≠k/\E j=some e'):=λj e' hj=> by
   by_cases hjk:j=k
   ·subst hjk;rw [hk,dZ] at hj;exact .inl ⟨rfl,(zaT hj).symm⟩
   ·rw [hk,dN hjk] at hj;exact .inr ⟨hjk,hj⟩
  refine .attached (l:=k::l) h1 h2 (by simp) hk W.rng ?_ (λj e' hj=> ?_) (λj e' hj=> ?_) (λj e' hj=> ?_) λhf=> ?_
  ·rw [hk];exact W.ch.Xx hn he rfl rfl
  ·rcases nd j e' hj with⟨rfl,_⟩ | ⟨_,h⟩
   ·simp
   ·exact W.mem j e' h
  ·rcases nd j e' hj with⟨_,rfl⟩ | ⟨hjk,h⟩
   ·rfl
   ·cases hd:e'.bG with
    | false=> rfl
    | true=>
     obtain⟨q,hq⟩:=W.st2 ((W.bG j e' h).1 hd);have h3:=W.mem j e' h;rw [hq] at h3;simp only [zcJ] at hq;simp only [zai,zaK,or_false] at h3;exact absurd (h3.trans hq.1.symm) hjk
  ·rcases nd j e' hj with⟨_,rfl⟩ | ⟨_,h⟩
   ·exact W.data k e he
   ·exact W.data j e' h
  ·refine W.zo λh2=> ?_;have:=(W.bG k e he).2 h2;rw [hf] at this;cases this
theorem O9 {R:List Int}(h1:d.step=3)(h2:d.aS=2)(L:aed N E v i (d.next::R))(hne:d.next≠i)(hd:E i≠none->d.data=v):
  ∃e,E d.next=some e/\Hold N hm (lM E d.next none) r v i d (.ans ⟨9,d.next,i,d.id,d.aj,e.fwd,0,e.bG,e.data⟩):=by
 obtain⟨⟨e,he,hf⟩,hc⟩:=L.ch;refine⟨e,he,?_⟩;rw [L.data _ e he,hf];have hn:d.next∉R:=(zaW.1 L.rng.1).1
 have nd:∀j e',lM E d.next none j=some e'->j≠d.next/\E j=some e':=λj e' hj=> by
  by_cases hjk:j=d.next
  ·rw [hjk,dZ] at hj;cases hj
  ·rw [dN hjk] at hj;exact⟨hjk,hj⟩
 refine .Eu (R:=R) h1 h2 ⟨⟨(zaW.1 L.rng.1).2,λj hj=> L.rng.2 j (by simp [hj])⟩,hc.ext λj hj=> dN λe=> hn (e ▸ hj),λj e' hj=> ?_,λj e' hj=> L.data j e' (nd j e' hj).2,λj e' hj hdj k hk=> ?_⟩ (λj e' hj=> ?_) λh=> hd ?_
 ·obtain⟨h3,h4⟩:=nd j e' hj;rcases L.mem j e' h4 with h | h
  ·rcases zai.1 h with h | h
   ·exact absurd h h3
   ·exact .inl h
  ·exact .inr h
 ·refine L.only j e' (nd j e' hj).2 hdj k ?_;intro h0;by_cases hk':k=d.next
  ·rw [hk',dZ] at hk;exact hk rfl
  ·rw [dN hk',h0] at hk;exact hk rfl
 ·obtain⟨h3,h4⟩:=nd j e' hj;cases hdt:e'.bG with
  | false=> rfl
  | true=> exact absurd (L.only j e' h4 hdt d.next (by rw [he];simp)).symm h3
 ·rw [dN hne.symm] at h;exact h
theorem Pg {pre post:List Int}(h1:d.step=4)(h2:d.aS=3)(M:Mid N E r v i pre post)(hp:pre≠[])(C:Chn E (-1) (pre++i::post) (-1))(hh:d.head=lH pre (-1))(hn:d.next=hdI post (-1))(ht:d.told=r.head):
  ∃e,E d.head=some e/\Hold N hm (lM E d.head (some { e with fwd:=d.next })) r v i d (.ans ⟨8,d.head,i,d.id,d.aj,0,0,false,[]⟩):=by
 obtain⟨p0,k,rfl⟩:∃p0 k,pre=p0++[k]:=⟨pre.dropLast,pre.getLast hp,(List.dropLast_concat_getLast hp).symm⟩
 have hk:d.head=k:=by rw [hh,Ad];rfl
 obtain⟨C1,C2⟩:=nM.1 C;obtain⟨e,he⟩:=C1.mem k (by simp);refine⟨e,by rw [hk];exact he,?_⟩;have ndp:=M.rng.1;have hkp:k∉p0/\k≠i/\k∉post:=by
  simp only [zbj,zaW,zai,zbl,zbf,zaS] at ndp;obtain⟨_,⟨h4,h5,h6⟩,h7⟩:=ndp;refine⟨λh=> h7 k h k (.inl rfl) rfl,λh=> h4 (.inl h),λh=> h4 (.inr h)⟩
 have nd:∀j e',lM E d.head (some { e with fwd:=d.next }) j=some e'->(j=k/\e'={ e with fwd:=d.next })∨(j≠k/\E j=some e'):=λj e' hj=> by
  by_cases hjk:j=k
  ·subst hjk;rw [hk,dZ] at hj;exact .inl ⟨rfl,(zaT hj).symm⟩
  ·rw [hk,dN hjk] at hj;exact .inr ⟨hjk,hj⟩
 refine .wB (pre:=p0++[k]) (post:=post) h1 h2 ⟨M.rng,λj e' hj=> ?_,?_,M.head,M.st,λj e' hj=> ?_,λj e' hj=> ?_,M.zo⟩ hp ?_ ?_ hh hn ht
 ·rcases nd j e' hj with⟨rfl,_⟩ | ⟨_,h⟩
  ·simp
  ·exact M.mem j e' h
 ·obtain⟨ei,hi⟩:=M.ent;exact⟨ei,by rw [hk,dN hkp.2.1.symm];exact hi⟩
 ·rcases nd j e' hj with⟨_,rfl⟩ | ⟨_,h⟩
  ·exact M.bG k e he
  ·exact M.bG j e' h
 ·rcases nd j e' hj with⟨_,rfl⟩ | ⟨_,h⟩
  ·exact M.data k e he
  ·exact M.data j e' h
 ·rw [hk];exact C1.aia hkp.1 he rfl hn
 ·rw [hk];exact C2.2.ext λj hj=> dN λe=> hkp.2.2 (e ▸ hj)
theorem LV {pre post:List Int}(h1:d.step=5)(h2:d.aS=3)(M:Mid N E r v i pre post)(hp:post≠[])(C1:Chn E (-1) pre (hdI post (-1)))(C2:Chn E i post (-1))(hh:d.head=lH pre (-1))(hn:d.next=hdI post (-1))(ht:d.told=r.head):
  ∃e,E d.next=some e/\Hold N hm (lM E d.next (some { e with back:=d.head })) r v i d (.ans ⟨8,d.next,i,d.id,d.aj,0,0,false,[]⟩):=by
 cases post with
 | nil=> exact absurd rfl hp
 | cons k post=>
  have hk:d.next=k:=hn
  obtain⟨e,he⟩:=C2.mem k (by simp);refine⟨e,by rw [hk];exact he,?_⟩;have ndp:=M.rng.1;have hkp:k∉pre/\k≠i/\k∉post:=by
   simp only [zbj,zaW,zai] at ndp;obtain⟨_,⟨h4,h5,h6⟩,h7⟩:=ndp;refine⟨λh=> h7 k h k (.inr (.inl rfl)) rfl,λh=> h4 (.inl h.symm),h5⟩
  have nd:∀j e',lM E d.next (some { e with back:=d.head }) j=some e'->(j=k/\e'={ e with back:=d.head })∨(j≠k/\E j=some e'):=λj e' hj=> by
   by_cases hjk:j=k
   ·subst hjk;rw [hk,dZ] at hj;exact .inl ⟨rfl,(zaT hj).symm⟩
   ·rw [hk,dN hjk] at hj;exact .inr ⟨hjk,hj⟩
  refine .qY (pre:=pre) (post:=k::post) h1 h2 ⟨M.rng,λj e' hj=> ?_,?_,M.head,M.st,λj e' hj=> ?_,λj e' hj=> ?_,M.zo⟩ hp ?_ ?_ hh hn ht
  ·rcases nd j e' hj with⟨rfl,_⟩ | ⟨_,h⟩
   ·simp
   ·exact M.mem j e' h
  ·obtain⟨ei,hi⟩:=M.ent;exact⟨ei,by rw [hk,dN hkp.2.1.symm];exact hi⟩
  ·rcases nd j e' hj with⟨_,rfl⟩ | ⟨_,h⟩
   ·exact M.bG k e he
   ·exact M.bG j e' h
  ·rcases nd j e' hj with⟨_,rfl⟩ | ⟨_,h⟩
   ·exact M.data k e he
   ·exact M.data j e' h
  ·rw [hk];exact C1.ext λj hj=> dN λe=> hkp.1 (e ▸ hj)
  ·rw [hk];exact C2.Xx hkp.2.2 he hh rfl
end
section
variable {N hm:Int}{E:pG}{r:Row}{v:List Int}{i:Int}{d:dL}
theorem Rng.cons {l:List Int}(h:Rng N l)(hi:0<=i/\i < N)(hn:i∉l):Rng N (i::l):=
 ⟨zaW.2 ⟨hn,h.1⟩,λj hj=> by rcases zai.1 hj with rfl | hj;exact hi;exact h.2 j hj⟩
theorem Rng.mid {pre post:List Int}(h:Rng N (pre++i::post)):i∉pre/\i∉post/\Rng N (pre++post)/\Rng N pre/\Rng N post/\0<=i:=by
 obtain⟨h1,h2⟩:=h;simp only [zbj,zaW,zai] at h1;obtain⟨a,⟨b,c⟩,e⟩:=h1;refine⟨λh=> e i h i (.inl rfl) rfl,b,⟨?_,λj hj=> h2 j (by rcases zaO.1 hj with h | h <;> simp [h])⟩,⟨a,λj hj=> h2 j (by simp [hj])⟩,⟨c,λj hj=> h2 j (by simp [hj])⟩,(h2 i (by simp)).1⟩;exact zbj.2 ⟨a,c,λx hx y hy=> e x hx y (.inr hy)⟩
theorem Rng.last {l:List Int}(h:Rng N l)(hl:l≠[]):0<=lH l (-1):=(h.2 _ (Et hl)).1
theorem iK {x:Option Ent}{j:Int}{e:Ent}(h:lM E i x j=some e):(j=i/\x=some e)∨(j≠i/\E j=some e):=by
 by_cases hj:j=i
 ·rw [hj,dZ] at h;exact .inl ⟨hj,h⟩
 ·rw [dN hj] at h;exact .inr ⟨hj,h⟩
theorem Wf.empty {l:List Int}(W:Wf N E r v l)(h:l=[]):∀j,E j=none:=λj=> by
 cases hj:E j with
 | none=> rfl
 | some e=> have:=W.mem j e hj;rw [h] at this;cases this
theorem Wf.alone {e:Ent}(hi:0<=i/\i < N)(hE:∀j,j≠i->E j=none)(he:E i=some e)(hb:e.back=-1)(hf:e.fwd=-1){x:List Int}(hx:e.data=v){st:Int}(hs:(st=1/\e.bG=false/\x=v)∨(st=2/\e.bG=true)):Wf N E ⟨st,i,x⟩ v [i]:=by
 have one:∀j e',E j=some e'->j=i/\e'=e:=λj e' hj=> by
  by_cases hji:j=i
  ·rw [hji,he] at hj;exact⟨hji,(zaT hj).symm⟩
  ·rw [hE j hji] at hj;cases hj
 refine⟨⟨by simp,λj hj=> by simp only [zai,zaK,or_false] at hj;rw [hj];exact hi⟩,⟨⟨e,he,hb,hf⟩,trivial⟩,λj e' hj=> by simp [(one j e' hj).1],rfl,?_,?_,λ_=> ⟨i,rfl⟩,λj e' hj=> ?_,λj e' hj=> by rw [(one j e' hj).2,hx],λh=> ?_⟩
 ·rcases hs with⟨h,_⟩ | ⟨h,_⟩ <;> simp [h]
 ·rcases hs with⟨h,_⟩ | ⟨h,_⟩ <;> simp [h]
 ·rw [(one j e' hj).2];rcases hs with⟨h,h',_⟩ | ⟨h,h'⟩ <;> simp [h,h']
 ·rcases hs with⟨_,_,h'⟩ | ⟨h',_⟩
  ·exact h'
  ·exact absurd h' h
theorem Jl {l:List Int}(hi:0<=i/\i < N)(W:Wf N E r v l)(hs:r.aW=0){e':Ent}(hb:e'.back=-1)(hf:e'.fwd=-1)(hd:e'.bG=false)(hx:e'.data=r.data){d':dL}(h6:d'.step=6)(h1:d'.aW=1)(hh:d'.head=i)(hn:d'.data=[]):
  Hold N hm (lM E i (some e')) r v i d' (.req (d'.ask i hm)):=by
 have hr:=W.zo (by rw [hs];decide);have h0:=W.empty (W.st0.1 hs);refine .unlock (l:=[i]) h6 ?_;have:gG r d'=⟨1,i,r.data⟩:=by simp only [gG,h1,hh,hn,if_true]
 rw [this];exact Wf.alone hi (λj hj=> by rw [dN hj];exact h0 j) dZ hb hf (by rw [hx,hr]) (.inl ⟨rfl,hd,hr⟩)
theorem Ew {l:List Int}(hk:d.aS=1)(W:Wf N E r v l)(hs:r.aW≠0)(h2:d.step=2)(hh:d.head=r.head):Hold N hm E r v i d (.req (d.ask i hm)):=
 .attach (l:=l) h2 hk (λh=> hs (W.st0.2 h)) (by rw [hh,W.head]) W
theorem Jm {l:List Int}{fl:Bool}(hi:0<=i/\i < N)(hE:E i=none)(hl:l≠[])(hh:d.head=hdI l (-1))(R:Rng N l)(C:Chn E i l (-1))(hm':∀j e,E j=some e->j∈l)(hc:∀j e,E j=some e->e.bG=false)(hd:∀j e,E j=some e->e.data=v)(hf:fl=false->r.data=v)(hv:v≠[])
  {e':Ent} (hb:e'.back=-1) (hw:e'.fwd=d.head) (hdt:e'.bG=false) (hx:e'.data=v) {d':dL} (h6:d'.step=6) (h1:d'.aW=1) (hdh:d'.head=i) (hn:d'.data=if fl then v else []):
  Hold N hm (lM E i (some e')) r v i d' (.req (d'.ask i hm)):=by
 have hil:i∉l:=λh=> by obtain⟨e,he⟩:=C.mem i h;rw [hE] at he;cases he
 have hr:(gG r d').data=v:=by
  simp only [gG,hn];cases fl with
  | true=> simp [hv]
  | false=> simp [hf rfl]
 refine .unlock (l:=i::l) h6 ⟨R.cons hi hil,⟨⟨e',dZ,hb,by rw [hw,hh]⟩,C.ext λj hj=> dN λe=> hil (e ▸ hj)⟩,λj e hj=> ?_,hdh,.inr (.inl h1),?_,λh=> ?_,λj e hj=> ?_,λj e hj=> ?_,λ_=> hr⟩
 ·rcases iK hj with⟨h,_⟩ | ⟨_,h⟩
  ·simp [h]
  ·exact zaZ _ (hm' j e h)
 ·simp only [gG,h1];simp
 ·simp only [gG,h1] at h;cases h
 ·simp only [gG,h1];rcases iK hj with⟨_,h⟩ | ⟨_,h⟩
  ·cases h;simp [hdt]
  ·simp [hc j e h]
 ·rcases iK hj with⟨_,h⟩ | ⟨_,h⟩
  ·cases h;exact hx
  ·exact hd j e h
theorem Wf.left {l:List Int}(W:Wf N E r v l):aed N E v i l:=
 ⟨W.rng,W.ch.fch,λj e hj=> .inl (W.mem j e hj),W.data,λj e hj hd k hk=> by
  obtain⟨q,hq⟩:=W.st2 ((W.bG j e hj).1 hd);have h1:=W.mem j e hj;cases hk':E k with
  | none=> exact absurd hk' hk
  | some e'=>
   have h2:=W.mem k e' hk';rw [hq] at h1 h2;simp only [zai,zaK,or_false] at h1 h2;rw [h1,h2]⟩
theorem aee(hi0:0<=i){R:List Int}(L:aed N E v i R)(hd1:E i≠none->d.data=v)(hd2:R=[]->d.data=v)(hn:d.next=hdI R (-1)){x:Int}(hx:x=match E i with
   | some own=> if d.next=i then own.fwd else d.next
   | none=> d.next) (hk:d.aS=2):
  (x≠-1/\∀d':dL,d'.step=3->d'.aS=2->d'.next=x->d'.data=d.data->Hold N hm E r v i d' (.req (d'.ask i hm)))∨(x=-1/\d.data=v/\∀j,j≠i->E j=none):=by
 have go:∀R':List Int,aed N E v i R'->x=hdI R' (-1)->(R'≠[]->hdI R' (-1)≠i)->(R'=[]->d.data=v)->(x≠-1/\∀d':dL,d'.step=3->d'.aS=2->d'.next=x->d'.data=d.data->Hold N hm E r v i d' (.req (d'.ask i hm)))∨(x=-1/\d.data=v/\∀j,j≠i->E j=none):=by
  intro R' L' hx' hi' hd';cases R' with
  | nil=>
   refine .inr ⟨hx',hd' rfl,λj hj=> ?_⟩;cases h:E j with
   | none=> rfl
   | some e=> rcases L'.mem j e h with h' | h';cases h';exact absurd h' hj
  | cons k R'=>
   have h0:=(L'.rng.2 k (by simp)).1;refine .inl ⟨by rw [hx'];show k≠-1;omega,λd' a b c e=> ?_⟩;have hk':d'.next=k:=c.trans hx'
   exact .EX (R:=R') a b (by rw [hk'];exact L') (by rw [hk'];exact hi' (by simp)) λh=> by rw [e];exact hd1 h
 cases hE:E i with
 | none=>
  rw [hE] at hx;simp only at hx;refine go R L (hx.trans hn) (λhR h=> ?_) hd2;obtain⟨e,he⟩:=L.ch.mem _ (L.rng.hd hR).1;rw [h,hE] at he;cases he
 | some own=>
  rw [hE] at hx;simp only at hx;have hdv:=hd1 (by rw [hE];simp);by_cases hni:d.next=i
  ·rw [if_pos hni] at hx;cases R with
   | nil=>
    have h1:d.next=-1:=hn
    omega
   | cons k R=>
    have hk':k=i:=by rw [<-hni,hn];rfl
    subst hk';obtain⟨⟨e,he,hf⟩,hc⟩:=L.ch;rw [hE] at he;cases he;have hkR:=(zaW.1 L.rng.1).1;refine go R ⟨⟨(zaW.1 L.rng.1).2,λj hj=> L.rng.2 j (by simp [hj])⟩,hc,λj e hj=> ?_,L.data,L.only⟩ (hx.trans hf) (λhR h=> ?_) λ_=> hdv
    ·rcases L.mem j e hj with h | h
     ·rcases zai.1 h with h | h
      ·exact .inr h
      ·exact .inl h
     ·exact .inr h
    ·apply hkR
     rw [<-h];cases R with
     | nil=> exact absurd rfl hR
     | cons a R=> simp [hdI]
  ·rw [if_neg hni] at hx;exact go R L (hx.trans hn) (λhR h=> hni (hn.trans h)) λ_=> hdv
theorem Ey(hi:0<=i/\i < N)(h0:∀j,j≠i->E j=none){e':Ent}(hb:e'.back=-1)(hf:e'.fwd=-1)(hd:e'.bG=true){d':dL}(h6:d'.step=6)(h1:d'.aW=2)(hh:d'.head=i):Hold N hm (lM E i (some e')) r e'.data i d' (.req (d'.ask i hm)):=by
 refine .unlock (l:=[i]) h6 ?_;have:gG r d'=⟨2,i,if d'.data=[] then r.data else d'.data⟩:=by simp only [gG,h1,hh]
 rw [this];exact Wf.alone hi (λj hj=> by rw [dN hj];exact h0 j hj) dZ hb hf rfl (.inr ⟨rfl,hd⟩)
theorem Jo {l:List Int}(W:Wf N E r v l)(h6:d.step=6)(hs:d.aW=r.aW)(hh:d.head=r.head)(hn:d.data=[]):Hold N hm E r v i d (.req (d.ask i hm)):=by
 refine .unlock (l:=l) h6 ?_;have:gG r d=r:=by simp only [gG,hs,hh,hn,if_true]
 rw [this];exact W
theorem Wf.split {l:List Int}(W:Wf N E r v l){e:Ent}(he:E i=some e):∃pre post,l=pre++i::post/\e.back=lH pre (-1)/\e.fwd=hdI post (-1):=by
 obtain⟨pre,post,rfl⟩:=List.append_of_mem (W.mem i e he);obtain⟨_,⟨⟨e',h1,h2,h3⟩,_⟩⟩:=nM.1 W.ch;rw [he] at h1;cases h1;exact⟨pre,post,rfl,h2,h3⟩
theorem Wf.mid {pre post:List Int}(W:Wf N E r v (pre++i::post)){e:Ent}(he:E i=some e)(hne:pre≠[]∨post≠[]):Mid N E r v i pre post:=by
 have h2:r.aW≠2:=λh=> by
  obtain⟨q,hq⟩:=W.st2 h;have:=congrArg List.length hq;simp only [zal,zam,zak] at this;rcases hne with h | h
  ·have:=zda.2 h;omega
  ·have:=zda.2 h;omega
 have h1:r.aW=1:=by
  rcases W.st with h | h | h
  ·have:=W.st0.1 h;simp at this
  ·exact h
  ·exact absurd h h2
 exact⟨W.rng,W.mem,⟨e,he⟩,W.head,h1,λj e' hj=> by
  cases hd:e'.bG with
  | false=> rfl
  | true=> exact absurd ((W.bG j e' hj).1 hd) h2,W.data,W.zo h2⟩
theorem EY {l:List Int}(W:Wf N E r v l)(hv:v≠[]){e:Ent}(he:E i=some e)(hb:e.back=-1)(hf:e.fwd=-1)(h6:d.step=6)(hs:d.aW=0)(hh:d.head=-1)(hn:d.data=if e.bG then e.data else []):Hold N hm (lM E i none) r v i d (.req (d.ask i hm)):=by
 obtain⟨pre,post,rfl,h1,h2⟩:=W.split he;obtain⟨p1,p2,p3,p4,p5,p6⟩:=W.rng.mid;have e1:pre=[]:=Classical.byContradiction λh=> by have:=p4.last h;omega
 have e2:post=[]:=Classical.byContradiction λh=> by have:=(p5.hd h).2;omega
 subst e1;subst e2;have none_:∀j,lM E i none j=none:=λj=> by
  cases hj:lM E i none j with
  | none=> rfl
  | some e'=>
   rcases iK hj with⟨_,h⟩ | ⟨hji,h⟩
   ·cases h
   ·have:=W.mem j e' h;simp only [zaS,zai,zaK,or_false] at this;exact absurd this hji
 have hd:(gG r d).data=v:=by
  simp only [gG,hn];cases hdt:e.bG with
  | true=> simp [W.data i e he,hv]
  | false=>
   have:r.aW≠2:=λh=> by rw [(W.bG i e he).2 h] at hdt;cases hdt
   simp [W.zo this]
 refine .unlock (l:=[]) h6 ⟨⟨List.nodup_nil,λj hj=> by cases hj⟩,trivial,λj e' hj=> ?_,hh,.inl hs,by simp [gG,hs],λh=> ?_,λj e' hj=> ?_,λj e' hj=> ?_,λ_=> hd⟩
 ·rw [none_ j] at hj;cases hj
 ·simp only [gG,hs] at h;cases h
 ·rw [none_ j] at hj;cases hj
 ·rw [none_ j] at hj;cases hj
theorem EZ {l:List Int}(W:Wf N E r v l){e:Ent}(he:E i=some e)(hb:e.back=-1)(hf:e.fwd≠-1)(h5:d.step=5)(hk:d.aS=3)(hh:d.head=-1)(hn:d.next=e.fwd)(ht:d.told=r.head):Hold N hm E r v i d (.req (d.ask i hm)):=by
 obtain⟨pre,post,rfl,h1,h2⟩:=W.split he;obtain⟨p1,p2,p3,p4,p5,p6⟩:=W.rng.mid;have e1:pre=[]:=Classical.byContradiction λh=> by have:=p4.last h;omega
 subst e1;have hp:post≠[]:=λh=> hf (by rw [h2,h];rfl);exact .behind (pre:=[]) (post:=post) h5 hk (W.mid he (.inr hp)) hp trivial W.ch.2 hh (hn.trans h2) ht
theorem E8 {l:List Int}(W:Wf N E r v l){e:Ent}(he:E i=some e)(hb:e.back≠-1)(h4:d.step=4)(hk:d.aS=3)(hh:d.head=e.back)(hn:d.next=e.fwd)(ht:d.told=r.head):Hold N hm E r v i d (.req (d.ask i hm)):=by
 obtain⟨pre,post,rfl,h1,h2⟩:=W.split he;have hp:pre≠[]:=λh=> hb (by rw [h1,h];rfl);exact .front (pre:=pre) (post:=post) h4 hk (W.mid he (.inl hp)) hp W.ch (hh.trans h1) (hn.trans h2) ht
theorem Mid.out {pre post:List Int}(M:Mid N E r v i pre post)(hne:pre++post≠[])(C1:Chn E (-1) pre (hdI post (-1)))(C2:Chn E (lH pre (-1)) post (-1))(h6:d.step=6)(hs:d.aW=1)(hh:d.head=hdI (pre++post) (-1))(hn:d.data=[]):Hold N hm (lM E i none) r v i d (.req (d.ask i hm)):=by
 obtain⟨p1,p2,p3,p4,p5,p6⟩:=M.rng.mid;have hu:gG r d=⟨1,hdI (pre++post) (-1),r.data⟩:=by simp only [gG,hs,hh,hn,if_true]
 refine .unlock (l:=pre++post) h6 ?_;rw [hu];refine⟨p3,nM.2 ⟨C1.ext λj hj=> dN λe=> p1 (e ▸ hj),C2.ext λj hj=> dN λe=> p2 (e ▸ hj)⟩,λj e hj=> ?_,rfl,.inr (.inl rfl),by simpa using hne,λh=> (by cases h),λj e hj=> ?_,λj e hj=> ?_,λ_=> M.zo⟩
 ·rcases iK hj with⟨_,h⟩ | ⟨hji,h⟩
  ·cases h
  ·have:=M.mem j e h;simp only [zaO,zai] at this ⊢;rcases this with h | h | h
   ·exact .inl h
   ·exact absurd h hji
   ·exact .inr h
 ·rcases iK hj with⟨_,h⟩ | ⟨_,h⟩
  ·cases h
  ·simp [M.bG j e h]
 ·rcases iK hj with⟨_,h⟩ | ⟨_,h⟩
  ·cases h
  ·exact M.data j e h
theorem Ez {pre post:List Int}(M:Mid N E r v i pre post)(hp:pre≠[])(C1:Chn E (-1) pre (hdI post (-1)))(hq:post=[])(h6:d.step=6)(hs:d.aW=1)(hh:d.head=r.head)(hn:d.data=[]):Hold N hm (lM E i none) r v i d (.req (d.ask i hm)):=by
 subst hq;refine M.out (by simpa using hp) C1 trivial h6 hs ?_ hn;rw [hh,M.head,za7];cases pre with
 | nil=> exact absurd rfl hp
 | cons a pre=> rfl
theorem E9 {pre post:List Int}(M:Mid N E r v i pre post)(hp:post≠[])(C1:Chn E (-1) pre (hdI post (-1)))(C2:Chn E i post (-1))(h5:d.step=5)(hk:d.aS=3)(hh:d.head=lH pre (-1))(hn:d.next=hdI post (-1))(ht:d.told=r.head):Hold N hm E r v i d (.req (d.ask i hm)):=
 .behind (pre:=pre) (post:=post) h5 hk M hp C1 C2 hh hn ht
theorem Ae {pre post:List Int}(M:Mid N E r v i pre post)(hp:post≠[])(C1:Chn E (-1) pre (hdI post (-1)))(C2:Chn E (lH pre (-1)) post (-1)){h0 nx:Int}(hh0:h0=lH pre (-1))(hnx:nx=hdI post (-1))(h6:d.step=6)(hs:d.aW=1)(hh:d.head=if h0=-1 then nx else r.head)(hn:d.data=[]):Hold N hm (lM E i none) r v i d (.req (d.ask i hm)):=by
 obtain⟨p1,p2,p3,p4,p5,p6⟩:=M.rng.mid;refine M.out (by simp [hp]) C1 C2 h6 hs ?_ hn;cases pre with
 | nil=>
  have:h0=-1:=hh0;rw [hh,if_pos this,hnx];rfl
 | cons a pre=>
  have h1:=p4.last (l:=a::pre) (by simp);rw [hh,if_neg (by omega),M.head];rfl
end
structure Abs where
 ent:Int->pG
 row:Int->Row
 own:Int->Int
 ws:Int->List (Int × Int)
 aF:Int->dL
 msg:Int->Out
 val:Int->List Int
def Abs.holds(c:Cfg)(a:Abs)(L:Int):Prop:=Hold c.au (c.aQ L) (a.ent L) (a.row L) (a.val L) (a.own L) (a.aF (a.own L)) (a.msg (a.own L))
def aci(c:Cfg)(a:Abs)(L:Int):Prop:=
 (a.own L=-1/\∃l,Wf c.au (a.ent L) (a.row L) (a.val L) l)∨(0<=a.own L/\a.own L < c.au/\(a.aF (a.own L)).aj=L/\a.holds c L)
def aib(c:Cfg)(a:Abs)(L:Int):Prop:=
 ((a.ws L).map (·.1)).Nodup/\∀w∈a.ws L,0<=w.1/\w.1 < c.au/\a.msg w.1=.wait/\(a.aF w.1).aj=L/\(a.aF w.1).id=w.2/\(a.aF w.1).step=1
def ZK(c:Cfg)(d:dL)(i:Int):Pkt:=⟨8,c.aQ d.aj,i,d.id,d.aj,0,0,false,[]⟩
def alT(c:Cfg)(a:Abs)(i:Int):Prop:=(a.aF i).step=1/\a.own (a.aF i).aj≠i/\(a.msg i=.req ((a.aF i).ask i (c.aQ (a.aF i).aj))∨(a.msg i=.wait/\(i,(a.aF i).id)∈a.ws (a.aF i).aj))
def akF(c:Cfg)(a:Abs)(i:Int):Prop:=(a.aF i).step=6/\a.own (a.aF i).aj≠i/\a.msg i=.ans (ZK c (a.aF i) i)
structure aef(c:Cfg)(a:Abs)(i:Int):Prop where
 step:(a.aF i).step≠0
 aj:0<=(a.aF i).aj/\(a.aF i).aj < c.aG
 aS:1<=(a.aF i).aS/\(a.aF i).aS<=3
 idr:0<=(a.aF i).id/\(a.aF i).id < 4096
 miss:(a.aF i).aS=1->(a.aF i).step=1∨(a.aF i).step=2->a.ent (a.aF i).aj i=none
 at_:alT c a i∨a.own (a.aF i).aj=i∨akF c a i
def acj(c:Cfg)(a:Abs)(i:Int):Prop:=((a.aF i).step=0/\a.msg i=.idle)∨aef c a i
structure lN(c:Cfg)(a:Abs):Prop where
 aj:∀L,0<=L->L < c.aG->aci c a L
 dG:∀i,0<=i->i < c.au->acj c a i
 ws:∀L,aib c a L
 val:∀L,0<=L->L < c.aG->a.val L≠[]
 out:∀L,¬(0<=L/\L < c.aG)->a.own L=-1
section
variable {c:Cfg}{a a':Abs}{i L:Int}
theorem Hold.Jp {N hm:Int}{E:pG}{r:Row}{v:List Int}{i:Int}{d:dL}{o:Out}(h:Hold N hm E r v i d o):d.step≠0:=by
 cases h <;> omega
theorem lN.holder(I:lN c a)(hL:0<=L/\L < c.aG)(h:a.own L=i)(hi:0<=i):(a.aF i).aj=L/\Hold c.au (c.aQ L) (a.ent L) (a.row L) (a.val L) i (a.aF i) (a.msg i):=by
 rcases I.aj L hL.1 hL.2 with⟨h1,_⟩ | ⟨_,_,h3,h4⟩
 ·omega
 ·unfold Abs.holds at h4;rw [h] at h3 h4;exact⟨h3,h4⟩
theorem lN.upd(I:lN c a)(i L:Int)(hi:0<=i)(e1:∀L',L'≠L->a'.ent L'=a.ent L')(r1:∀L',L'≠L->a'.row L'=a.row L')(o1:∀L',L'≠L->a'.own L'=a.own L')(w1:∀L',L'≠L->a'.ws L'=a.ws L')(v1:∀L',L'≠L->a'.val L'=a.val L')
  (d1:∀j,j≠i->a'.aF j=a.aF j) (m1:∀j,j≠i->a'.msg j=a.msg j) (e2:∀j,j≠i->a.ent L j=none->a'.ent L j=none)
  (o2:∀j,0<=j->j≠i->(a'.own L=j↔a.own L=j)) (w2:∀j k,j≠i->(j,k)∈a.ws L->(j,k)∈a'.ws L)
  (h6:∀L',L'≠L->a.own L'≠i) (h7:∀L',L'≠L->∀k,(i,k)∉a.ws L') (hL:0<=L/\L < c.aG)
  (nl:aci c a' L) (nn:acj c a' i) (nw:aib c a' L) (nv:a'.val L≠[]):lN c a':=by
 refine⟨λL' h0 h1=> ?_,λj h0 h1=> ?_,λL'=> ?_,λL' h0 h1=> ?_,λL' h=> ?_⟩
 ·by_cases h:L'=L
  ·rw [h];exact nl
  ·have hne:=h6 L' h;rcases I.aj L' h0 h1 with⟨a1,l,a2⟩ | ⟨a1,a2,a3,a4⟩
   ·exact .inl ⟨by rw [o1 L' h];exact a1,l,by rw [e1 L' h,r1 L' h,v1 L' h];exact a2⟩
   ·refine .inr ⟨by rw [o1 L' h];exact a1,by rw [o1 L' h];exact a2,by rw [o1 L' h,d1 _ hne];exact a3,?_⟩;unfold Abs.holds at a4 ⊢;rw [o1 L' h,d1 _ hne,m1 _ hne,e1 L' h,r1 L' h,v1 L' h];exact a4
 ·by_cases h:j=i
  ·rw [h];exact nn
  ·rcases I.dG j h0 h1 with⟨a1,a2⟩ | O
   ·exact .inl ⟨by rw [d1 j h];exact a1,by rw [m1 j h];exact a2⟩
   ·have od:∀M:Int,a'.own M=j↔a.own M=j:=λM=> by
     by_cases hM:M=L
     ·rw [hM];exact o2 j h0 h
     ·rw [o1 M hM]
    refine .inr ⟨by rw [d1 j h];exact O.step,by rw [d1 j h];exact O.aj,by rw [d1 j h];exact O.aS,by rw [d1 j h];exact O.idr,?_,?_⟩
    ·rw [d1 j h];intro hk hs;have:=O.miss hk hs;by_cases hM:(a.aF j).aj=L
     ·rw [hM] at this ⊢;exact e2 j h this
     ·rw [e1 _ hM];exact this
    ·rcases O.at_ with⟨b1,b2,b3⟩ | b | ⟨b1,b2,b3⟩
     ·refine .inl ⟨by rw [d1 j h];exact b1,?_,?_⟩
      ·rw [d1 j h];exact λe=> b2 ((od _).1 e)
      ·rw [d1 j h,m1 j h];rcases b3 with b3 | ⟨b3,b4⟩
       ·exact .inl b3
       ·refine .inr ⟨b3,?_⟩;by_cases hM:(a.aF j).aj=L
        ·rw [hM] at b4 ⊢;exact w2 j _ h b4
        ·rw [w1 _ hM];exact b4
     ·exact .inr (.inl (by rw [d1 j h];exact(od _).2 b))
     ·refine .inr (.inr ⟨by rw [d1 j h];exact b1,?_,by rw [m1 j h,d1 j h];exact b3⟩);rw [d1 j h];exact λe=> b2 ((od _).1 e)
 ·by_cases h:L'=L
  ·rw [h];exact nw
  ·obtain⟨b1,b2⟩:=I.ws L';refine⟨by rw [w1 L' h];exact b1,λw hw=> ?_⟩;rw [w1 L' h] at hw;have hne:w.1≠i:=λe=> h7 L' h w.2 (by rw [<-e];exact hw);rw [d1 _ hne,m1 _ hne];exact b2 w hw
 ·by_cases h:L'=L
  ·rw [h];exact nv
  ·rw [v1 L' h];exact I.val L' h0 h1
 ·by_cases hM:L'=L
  ·rw [hM] at h;exact absurd hL h
  ·rw [o1 L' hM];exact I.out L' h
theorem lN.only(I:lN c a)(hi:0<=i)(L':Int)(h:a.own L'=i):(a.aF i).aj=L'/\(a.aF i).step≠0:=by
 by_cases hL:0<=L'/\L' < c.aG
 ·obtain⟨h1,h2⟩:=I.holder hL h hi;exact⟨h1,h2.Jp⟩
 ·have:=I.out L' hL;omega
theorem lN.aeg(I:lN c a)(hi:0<=i)(h:(a.aF i).aj=L∨(a.aF i).step=0):∀L',L'≠L->a.own L'≠i:=λL' hne e=> by
 obtain⟨h1,h2⟩:=I.only hi L' e;rcases h with h | h
 ·exact hne (h1.symm.trans h)
 ·exact h2 h
theorem lN.ws7(I:lN c a)(h:(a.aF i).aj=L∨(a.aF i).step=0):∀L',L'≠L->∀k,(i,k)∉a.ws L':=λL' hne k hk=> by
 obtain⟨_,_,_,h4,_,h6⟩:=(I.ws L').2 _ hk;rcases h with h | h
 ·exact hne (h4.symm.trans h)
 ·simp only at h6;omega
theorem aib.same(W:aib c a L)(hw:a'.ws L=a.ws L)(h:∀k,(i,k)∉a.ws L)(d1:∀j,j≠i->a'.aF j=a.aF j)(m1:∀j,j≠i->a'.msg j=a.msg j):aib c a' L:=by
 obtain⟨b1,b2⟩:=W;refine⟨by rw [hw];exact b1,λw hx=> ?_⟩;rw [hw] at hx;have hne:w.1≠i:=λe=> h w.2 (by rw [<-e];exact hx);rw [d1 _ hne,m1 _ hne];exact b2 w hx
theorem lN.LW(I:lN c a)(h:a.msg i≠.wait):∀L k,(i,k)∉a.ws L:=λL k hk=> h ((I.ws L).2 _ hk).2.2.1
def bT {α:Type}(f:Int->α)(i:Int)(x:α):Int->α:=λj=> if j=i then x else f j
theorem aB {α:Type}{f:Int->α}{i:Int}{x:α}:bT f i x i=x:=by simp [bT]
theorem aI {α:Type}{f:Int->α}{i j:Int}{x:α}(h:j≠i):bT f i x j=f j:=by simp [bT,h]
theorem lN.begin_(I:lN c a)(hi:0<=i/\i < c.au)(h0:(a.aF i).step=0){k id:Int}(hk:1<=k/\k<=3)(hid:0<=id/\id < 4096)(hL:0<=L/\L < c.aG)(hm:k=1->a.ent L i=none):
  lN c { a with aF:=bT a.aF i (.begin k L id),msg:=bT a.msg i (.req ((dL.begin k L id).ask i (c.aQ L))) }:=by
 have hown:∀L',a.own L'≠i:=λL' e=> (I.only hi.1 L' e).2 h0;have alU:a.msg i≠.wait:=λe=> by
  rcases I.dG i hi.1 hi.2 with⟨_,h⟩ | O
  ·rw [h] at e;cases e
  ·exact O.step h0
 have hws:=I.LW alU;refine I.upd i L hi.1 (λ_ _=> rfl) (λ_ _=> rfl) (λ_ _=> rfl) (λ_ _=> rfl) (λ_ _=> rfl) (λj hj=> aI hj) (λj hj=> aI hj) (λ_ _ h=> h) (λ_ _ _=> Iff.rfl) (λ_ _ _ h=> h) (λL' _=> hown L') (λL' _=> hws L') hL ?_ ?_ ?_ (I.val L hL.1 hL.2)
 ·rcases I.aj L hL.1 hL.2 with h | ⟨b1,b2,b3,b4⟩
  ·exact .inl h
  ·refine .inr ⟨b1,b2,?_,?_⟩
   ·show(bT a.aF i _ (a.own L)).aj=L;rw [aI (hown L)];exact b3
   ·unfold Abs.holds at b4 ⊢;show Hold _ _ _ _ _ _ (bT a.aF i _ (a.own L)) (bT a.msg i _ (a.own L));rw [aI (hown L),aI (hown L)];exact b4
 ·have hd:bT a.aF i (.begin k L id) i=dL.begin k L id:=aB;refine .inr ⟨?_,?_,?_,by show 0<=(bT a.aF i _ i).id/\(bT a.aF i _ i).id < 4096;rw [hd];exact hid,?_,.inl ⟨?_,?_,.inl ?_⟩⟩
  ·show(bT a.aF i _ i).step≠0;rw [hd];show(1:Int)≠0;decide
  ·show 0<=(bT a.aF i _ i).aj/\(bT a.aF i _ i).aj < c.aG;rw [hd];exact hL
  ·show 1<=(bT a.aF i _ i).aS/\(bT a.aF i _ i).aS<=3;rw [hd];exact hk
  ·show(bT a.aF i _ i).aS=1->(bT a.aF i _ i).step=1∨(bT a.aF i _ i).step=2->a.ent (bT a.aF i _ i).aj i=none;rw [hd];exact λh _=> hm h
  ·show(bT a.aF i _ i).step=1;rw [hd];rfl
  ·show a.own (bT a.aF i _ i).aj≠i;exact hown _
  ·show bT a.msg i _ i=.req ((bT a.aF i _ i).ask i (c.aQ (bT a.aF i _ i).aj));rw [hd,aB];rfl
 ·exact(I.ws L).same (i:=i) rfl (hws L) (λj hj=> aI hj) (λj hj=> aI hj)
theorem jK {d:dL}{hm:Int}(h:1<=d.step/\d.step<=6):(d.ask i hm).aS=KO d.step/\(d.ask i hm).src=i/\(d.ask i hm).id=d.id/\(d.ask i hm).aj=d.aj:=by
 have:d.step=1∨d.step=2∨d.step=3∨d.step=4∨d.step=5∨d.step=6:=by omega
 unfold dL.ask KO;rcases this with h | h | h | h | h | h <;> simp [h]
theorem Hold.req {N hm:Int}{E:pG}{r:Row}{v:List Int}{d:dL}{p:Pkt}(h:Hold N hm E r v i d (.req p)):p=d.ask i hm/\2<=d.step/\d.step<=6:=by
 cases h <;> exact⟨rfl,by omega,by omega⟩
theorem Hold.ans {N hm:Int}{E:pG}{r:Row}{v:List Int}{d:dL}{p:Pkt}(h:Hold N hm E r v i d (.ans p)):p.dst=i/\p.id=d.id/\p.aj=d.aj/\p.aS=Qp (KO d.step)/\1<=d.step/\d.step<=5:=by
 cases h
 all_goals (rename_i hs;first | skip)
 all_goals (refine⟨rfl,rfl,rfl,?_,by omega,by omega⟩;simp [*,KO,Qp])
theorem Hold.unl {N hm:Int}{E:pG}{r:Row}{v:List Int}{d:dL}{p:Pkt}(h:Hold N hm E r v i d (.req p))(h6:d.step=6):∃l,Wf N E (gG r d) v l:=by
 cases h
 all_goals first | (exfalso;omega) | exact⟨_,by assumption⟩
theorem lN.req(I:lN c a)(hi:0<=i/\i < c.au){p:Pkt}(hp:a.msg i=.req p):
  aef c a i/\p=(a.aF i).ask i (c.aQ p.aj)/\(a.aF i).aj=p.aj/\(1<=(a.aF i).step/\(a.aF i).step<=6)/\
  (((a.aF i).step=1/\a.own p.aj≠i)∨(2<=(a.aF i).step/\a.own p.aj=i/\Hold c.au (c.aQ p.aj) (a.ent p.aj) (a.row p.aj) (a.val p.aj) i (a.aF i) (.req p))):=by
 rcases I.dG i hi.1 hi.2 with⟨_,h⟩ | O
 ·rw [h] at hp;cases hp
 ·rcases O.at_ with⟨b1,b2,b3⟩ | b | ⟨_,_,b3⟩
  ·rcases b3 with b3 | ⟨b3,_⟩
   ·rw [b3] at hp;have hp:=(Out.req.inj hp).symm;have hl:p.aj=(a.aF i).aj:=by rw [hp];exact(jK (by omega)).2.2.2
    rw [hl];exact⟨O,hp,rfl,by omega,.inl ⟨b1,b2⟩⟩
   ·rw [b3] at hp;cases hp
  ·obtain⟨_,H⟩:=I.holder O.aj b hi.1;rw [hp] at H;obtain⟨h1,h2,h3⟩:=H.req;have hl:p.aj=(a.aF i).aj:=by rw [h1];exact(jK (by omega)).2.2.2
   rw [hl];exact⟨O,h1,rfl,by omega,.inr ⟨h2,b,H⟩⟩
  ·rw [b3] at hp;cases hp
theorem lN.lock(I:lN c a)(hi:0<=i/\i < c.au){p:Pkt}(hp:a.msg i=.req p)(hk:p.aS=1)(hf:a.own p.aj=-1):
  lN c { a with own:=bT a.own p.aj i,msg:=bT a.msg i (.ans ⟨7,c.aQ p.aj,i,p.id,p.aj,(a.row p.aj).head,(a.row p.aj).aW,false,(a.row p.aj).data⟩) }:=by
 obtain⟨O,h1,h2,h3,h4⟩:=I.req hi hp;have hpk:p.aS=KO (a.aF i).step:=by rw [h1];exact(jK h3).1
 have hpi:p.id=(a.aF i).id:=by rw [h1];exact(jK h3).2.2.1
 have hst:(a.aF i).step=1:=by
  rcases h4 with h | ⟨h,h',_⟩
  ·exact h.1
  ·omega
 have hL:=O.aj;rw [h2] at hL;have hws:=I.LW (i:=i) (by rw [hp];exact λe=> by cases e);have hms:bT a.msg i (.ans ⟨7,c.aQ p.aj,i,p.id,p.aj,(a.row p.aj).head,(a.row p.aj).aW,false,(a.row p.aj).data⟩) i=.ans ⟨7,c.aQ p.aj,i,p.id,p.aj,(a.row p.aj).head,(a.row p.aj).aW,false,(a.row p.aj).data⟩:=aB;refine I.upd i p.aj hi.1 (λ_ _=> rfl) (λ_ _=> rfl) (λ_ h=> aI h) (λ_ _=> rfl) (λ_ _=> rfl) (λ_ _=> rfl) (λj hj=> aI hj) (λ_ _ h=> h) (λj h0 hj=> ?_) (λ_ _ _ h=> h) (I.aeg hi.1 (.inl h2)) (λL' _=> hws L') hL ?_ ?_ ?_ (I.val _ hL.1 hL.2)
 ·show bT a.own p.aj i p.aj=j↔_;rw [aB,hf];exact⟨λe=> absurd e.symm hj,λe=> by omega⟩
 ·have ho:bT a.own p.aj i p.aj=i:=aB;refine .inr ?_;show 0<=bT a.own p.aj i p.aj/\bT a.own p.aj i p.aj < c.au/\(a.aF (bT a.own p.aj i p.aj)).aj=p.aj/\Hold _ _ _ _ _ (bT a.own p.aj i p.aj) (a.aF (bT a.own p.aj i p.aj)) (bT a.msg i _ (bT a.own p.aj i p.aj));rw [ho,hms];refine⟨hi.1,hi.2,h2,?_⟩;rcases I.aj p.aj hL.1 hL.2 with⟨_,l,W⟩ | ⟨b1,_⟩
  ·have:=Hold.granted (hm:=c.aQ p.aj) (i:=i) (d:=a.aF i) hst W;rw [h2] at this;rw [hpi];exact this
  ·omega
 ·refine .inr ⟨O.step,O.aj,O.aS,O.idr,O.miss,.inr (.inl ?_)⟩;show bT a.own p.aj i (a.aF i).aj=i;rw [h2,aB]
 ·exact(I.ws _).same (i:=i) rfl (hws _) (λ_ _=> rfl) (λj hj=> aI hj)
theorem lN.wait(I:lN c a)(hi:0<=i/\i < c.au){p:Pkt}(hp:a.msg i=.req p)(hk:p.aS=1):
  lN c { a with ws:=bT a.ws p.aj (a.ws p.aj++[(i,p.id)]),msg:=bT a.msg i .wait }:=by
 obtain⟨O,h1,h2,h3,h4⟩:=I.req hi hp;have hpk:p.aS=KO (a.aF i).step:=by rw [h1];exact(jK h3).1
 have hpi:p.id=(a.aF i).id:=by rw [h1];exact(jK h3).2.2.1
 have hst:(a.aF i).step=1/\a.own p.aj≠i:=by
  rcases h4 with h | ⟨h,_,h'⟩
  ·exact h
  ·exfalso;have:(a.aF i).step=2∨(a.aF i).step=3∨(a.aF i).step=4∨(a.aF i).step=5∨(a.aF i).step=6:=by omega
   rw [hk] at hpk;rcases this with h | h | h | h | h <;> simp [h,KO] at hpk
 have hL:=O.aj;rw [h2] at hL;have hws:=I.LW (i:=i) (by rw [hp];exact λe=> by cases e);refine I.upd i p.aj hi.1 (λ_ _=> rfl) (λ_ _=> rfl) (λ_ _=> rfl) (λ_ h=> aI h) (λ_ _=> rfl) (λ_ _=> rfl) (λj hj=> aI hj) (λ_ _ h=> h) (λj h0 hj=> Iff.rfl) (λj k hj h=> ?_) (I.aeg hi.1 (.inl h2)) (λL' _=> hws L') hL ?_ ?_ ?_ (I.val _ hL.1 hL.2)
 ·show(j,k)∈bT a.ws p.aj _ p.aj;rw [aB];exact zc5 _ h
 ·rcases I.aj p.aj hL.1 hL.2 with h | ⟨b1,b2,b3,b4⟩
  ·exact .inl h
  ·refine .inr ⟨b1,b2,b3,?_⟩;unfold Abs.holds at b4 ⊢;show Hold _ _ _ _ _ _ _ (bT a.msg i _ (a.own p.aj));rw [aI hst.2];exact b4
 ·refine .inr ⟨O.step,O.aj,O.aS,O.idr,O.miss,.inl ⟨hst.1,?_,.inr ⟨aB,?_⟩⟩⟩
  ·show a.own (a.aF i).aj≠i;rw [h2];exact hst.2
  ·show(i,(a.aF i).id)∈bT a.ws p.aj _ (a.aF i).aj;rw [h2,aB,hpi];simp
 ·obtain⟨b1,b2⟩:=I.ws p.aj;have hw:bT a.ws p.aj (a.ws p.aj++[(i,p.id)]) p.aj=a.ws p.aj++[(i,p.id)]:=aB;refine⟨?_,λw hx=> ?_⟩
  ·show((bT a.ws p.aj _ p.aj).map (·.1)).Nodup;rw [hw,zbb,zbj];refine⟨b1,by simp,λx hx y hy=> ?_⟩;simp only [zaA,zbz,zai,zaK,or_false] at hy;obtain⟨w,hw1,rfl⟩:=zaD.1 hx;rw [hy];exact λe=> hws p.aj w.2 (by rw [<-e];exact hw1)
  ·replace hx:w∈bT a.ws p.aj (a.ws p.aj++[(i,p.id)]) p.aj:=hx
   rw [hw] at hx;show 0<=w.1/\w.1 < c.au/\bT a.msg i .wait w.1=.wait/\(a.aF w.1).aj=p.aj/\(a.aF w.1).id=w.2/\(a.aF w.1).step=1;rcases zaO.1 hx with hx | hx
   ·have hne:w.1≠i:=λe=> hws p.aj w.2 (by rw [<-e];exact hx);rw [aI hne];exact b2 w hx
   ·simp only [zai,zaK,or_false] at hx;subst hx;exact⟨hi.1,hi.2,aB,h2,hpi.symm,hst.1⟩
theorem lN.grant(I:lN c a)(hL:0<=L/\L < c.aG)(hf:a.own L=-1){w:Int × Int}{ws:List (Int × Int)}(hw:a.ws L=w::ws):
  (0<=w.1/\w.1 < c.au)/\a.msg w.1=.wait/\
  lN c { a with own:=bT a.own L w.1,ws:=bT a.ws L ws,msg:=bT a.msg w.1 (.ans ⟨7,c.aQ L,w.1,w.2,L,(a.row L).head,(a.row L).aW,false,(a.row L).data⟩) }:=by
 obtain⟨b1,b2⟩:=I.ws L;obtain⟨hi0,hi1,hmw,hdl,hid,hst⟩:=b2 w (by rw [hw];simp);rw [hw] at b1;simp only [zaA,zaW] at b1;have nws:∀k,(w.1,k)∉ws:=λk hk=> b1.1 (zaD.2 ⟨_,hk,rfl⟩);refine⟨⟨hi0,hi1⟩,hmw,?_⟩;have O:aef c a w.1:=by
  rcases I.dG w.1 hi0 hi1 with⟨h,_⟩ | O
  ·omega
  ·exact O
 refine I.upd w.1 L hi0 (λ_ _=> rfl) (λ_ _=> rfl) (λ_ h=> aI h) (λ_ h=> aI h) (λ_ _=> rfl) (λ_ _=> rfl) (λj hj=> aI hj) (λ_ _ h=> h) (λj h0 hj=> ?_) (λj k hj h=> ?_) (I.aeg hi0 (.inl hdl)) (I.ws7 (.inl hdl)) hL ?_ ?_ ?_ (I.val _ hL.1 hL.2)
 ·show bT a.own L w.1 L=j↔_;rw [aB,hf];exact⟨λe=> absurd e.symm hj,λe=> by omega⟩
 ·show(j,k)∈bT a.ws L ws L;rw [aB];rw [hw] at h;rcases zai.1 h with h | h
  ·exact absurd (congrArg Prod.fst h) hj
  ·exact h
 ·have ho:bT a.own L w.1 L=w.1:=aB;refine .inr ?_;show 0<=bT a.own L w.1 L/\bT a.own L w.1 L < c.au/\(a.aF (bT a.own L w.1 L)).aj=L/\Hold _ _ _ _ _ (bT a.own L w.1 L) (a.aF (bT a.own L w.1 L)) (bT a.msg w.1 _ (bT a.own L w.1 L));rw [ho,aB];refine⟨hi0,hi1,hdl,?_⟩;rcases I.aj L hL.1 hL.2 with⟨_,l,W⟩ | ⟨b1,_⟩
  ·have:=Hold.granted (hm:=c.aQ L) (i:=w.1) (d:=a.aF w.1) hst W;rw [hdl,hid] at this;exact this
  ·omega
 ·refine .inr ⟨O.step,O.aj,O.aS,O.idr,O.miss,.inr (.inl ?_)⟩;show bT a.own L w.1 (a.aF w.1).aj=w.1;rw [hdl,aB]
 ·have hw':bT a.ws L ws L=ws:=aB;refine⟨?_,λx hx=> ?_⟩
  ·show((bT a.ws L ws L).map (·.1)).Nodup;rw [hw'];exact b1.2
  ·replace hx:x∈bT a.ws L ws L:=hx
   rw [hw'] at hx;have hne:x.1≠w.1:=λe=> nws x.2 (by rw [<-e];exact hx);show 0<=x.1/\x.1 < c.au/\bT a.msg w.1 _ x.1=.wait/\_;rw [aI hne];exact b2 x (by rw [hw];simp [hx])
theorem lN.unlock(I:lN c a)(hi:0<=i/\i < c.au){p:Pkt}(hp:a.msg i=.req p)(hk:p.aS=2):
  a.own p.aj=i/\(p.aW=0∨p.aW=1∨p.aW=2)/\(∃l,Wf c.au (a.ent p.aj) (gG (a.row p.aj) (a.aF i)) (a.val p.aj) l)/\p=(a.aF i).ask i (c.aQ p.aj)/\(a.aF i).step=6/\
  lN c { a with row:=bT a.row p.aj (gG (a.row p.aj) (a.aF i)),own:=bT a.own p.aj (-1),msg:=bT a.msg i (.ans ⟨8,c.aQ p.aj,i,p.id,p.aj,0,0,false,[]⟩) }:=by
 obtain⟨O,h1,h2,h3,h4⟩:=I.req hi hp;have hpk:p.aS=KO (a.aF i).step:=by rw [h1];exact(jK h3).1
 have hpi:p.id=(a.aF i).id:=by rw [h1];exact(jK h3).2.2.1
 have hst:(a.aF i).step=6:=by
  have:(a.aF i).step=1∨(a.aF i).step=2∨(a.aF i).step=3∨(a.aF i).step=4∨(a.aF i).step=5∨(a.aF i).step=6:=by omega
  rw [hk] at hpk;rcases this with h | h | h | h | h | h
  all_goals first | exact h | (exfalso;simp [h,KO] at hpk)
 have hh:a.own p.aj=i/\Hold c.au (c.aQ p.aj) (a.ent p.aj) (a.row p.aj) (a.val p.aj) i (a.aF i) (.req p):=by
  rcases h4 with⟨h,_⟩ | ⟨_,h,h'⟩
  ·omega
  ·exact⟨h,h'⟩
 obtain⟨ho,H⟩:=hh;have hW:∃l,Wf c.au (a.ent p.aj) (gG (a.row p.aj) (a.aF i)) (a.val p.aj) l:=by
  exact H.unl hst
 obtain⟨l,W⟩:=hW;have hps:p.aW=(a.aF i).aW:=by rw [h1];unfold dL.ask;simp [hst]
 have hL:=O.aj;rw [h2] at hL;have hws:=I.LW (i:=i) (by rw [hp];exact λe=> by cases e);refine⟨ho,by rw [hps];exact W.st,⟨l,W⟩,h1,hst,?_⟩;refine I.upd i p.aj hi.1 (λ_ _=> rfl) (λ_ h=> aI h) (λ_ h=> aI h) (λ_ _=> rfl) (λ_ _=> rfl) (λ_ _=> rfl) (λj hj=> aI hj) (λ_ _ h=> h) (λj h0 hj=> ?_) (λ_ _ _ h=> h) (I.aeg hi.1 (.inl h2)) (λL' _=> hws L') hL ?_ ?_ ?_ (I.val _ hL.1 hL.2)
 ·show bT a.own p.aj (-1) p.aj=j↔_;rw [aB,ho];exact⟨λe=> by omega,λe=> absurd e.symm hj⟩
 ·refine .inl ⟨aB,l,?_⟩;show Wf _ _ (bT a.row p.aj _ p.aj) _ _;rw [aB];exact W
 ·refine .inr ⟨O.step,O.aj,O.aS,O.idr,O.miss,.inr (.inr ⟨hst,?_,?_⟩)⟩
  ·show bT a.own p.aj (-1) (a.aF i).aj≠i;rw [h2,aB];omega
  ·show bT a.msg i _ i=.ans (ZK c (a.aF i) i);rw [aB,ZK,h2,hpi]
 ·exact(I.ws _).same (i:=i) rfl (hws _) (λ_ _=> rfl) (λj hj=> aI hj)
theorem lN.served(I:lN c a)(hi:0<=i/\i < c.au)(hL:0<=L/\L < c.aG)(ho:a.own L=i){E:pG}{q:Pkt}(hE:∀j,a.ent L j=none->E j=none)(H:Hold c.au (c.aQ L) E (a.row L) (a.val L) i (a.aF i) (.ans q))(hm:a.msg i≠.wait):
  lN c { a with ent:=bT a.ent L E,msg:=bT a.msg i (.ans q) }:=by
 obtain⟨h2,H0⟩:=I.holder hL ho hi.1;have O:aef c a i:=by
  rcases I.dG i hi.1 hi.2 with⟨h,_⟩ | O
  ·exact absurd h H0.Jp
  ·exact O
 have hws:=I.LW hm;refine I.upd i L hi.1 (λ_ h=> aI h) (λ_ _=> rfl) (λ_ _=> rfl) (λ_ _=> rfl) (λ_ _=> rfl) (λ_ _=> rfl) (λj hj=> aI hj) (λj _ h=> ?_) (λj h0 hj=> Iff.rfl) (λ_ _ _ h=> h) (I.aeg hi.1 (.inl h2)) (λL' _=> hws L') hL ?_ ?_ ?_ (I.val _ hL.1 hL.2)
 ·show bT a.ent L E L j=none;rw [aB];exact hE j h
 ·refine .inr ?_;show 0<=a.own L/\a.own L < c.au/\(a.aF (a.own L)).aj=L/\Hold _ _ (bT a.ent L E L) _ _ (a.own L) (a.aF (a.own L)) (bT a.msg i _ (a.own L));rw [ho,aB,aB];exact⟨hi.1,hi.2,h2,H⟩
 ·refine .inr ⟨O.step,O.aj,O.aS,O.idr,λh h'=> ?_,.inr (.inl ?_)⟩
  ·show bT a.ent L E (a.aF i).aj i=none;have:=O.miss h h';rw [h2] at this ⊢;rw [aB];exact hE i this
  ·show a.own (a.aF i).aj=i;rw [h2];exact ho
 ·exact(I.ws _).same (i:=i) rfl (hws _) (λ_ _=> rfl) (λj hj=> aI hj)
theorem lN.goes(I:lN c a)(hi:0<=i/\i < c.au)(hL:0<=L/\L < c.aG)(ho:a.own L=i)(hm:a.msg i≠.wait){x:Option Ent}{v:List Int}{d:dL}(hv:v≠[])(hd:d.aj=L)(hk:d.aS=(a.aF i).aS)(hid:d.id=(a.aF i).id)(hmiss:d.aS=1->d.step=1∨d.step=2->x=none)
  (H:Hold c.au (c.aQ L) (lM (a.ent L) i x) (a.row L) v i d (.req (d.ask i (c.aQ L)))):
  lN c { a with ent:=bT a.ent L (lM (a.ent L) i x),val:=bT a.val L v,aF:=bT a.aF i d,msg:=bT a.msg i (.req (d.ask i (c.aQ L))) }:=by
 obtain⟨h2,H0⟩:=I.holder hL ho hi.1;have O:aef c a i:=by
  rcases I.dG i hi.1 hi.2 with⟨h,_⟩ | O
  ·exact absurd h H0.Jp
  ·exact O
 have hws:=I.LW hm;refine I.upd i L hi.1 (λ_ h=> aI h) (λ_ _=> rfl) (λ_ _=> rfl) (λ_ _=> rfl) (λ_ h=> aI h) (λj hj=> aI hj) (λj hj=> aI hj) (λj hj h=> ?_) (λj h0 hj=> Iff.rfl) (λ_ _ _ h=> h) (I.aeg hi.1 (.inl h2)) (λL' _=> hws L') hL ?_ ?_ ?_ ?_
 ·show bT a.ent L _ L j=none;rw [aB,dN hj];exact h
 ·refine .inr ?_;show 0<=a.own L/\a.own L < c.au/\(bT a.aF i d (a.own L)).aj=L/\Hold _ _ (bT a.ent L _ L) _ (bT a.val L v L) (a.own L) (bT a.aF i d (a.own L)) (bT a.msg i _ (a.own L));rw [ho,aB,aB,aB,aB];exact⟨hi.1,hi.2,hd,H⟩
 ·have hd':bT a.aF i d i=d:=aB;refine .inr ⟨?_,?_,?_,by show 0<=(bT a.aF i d i).id/\(bT a.aF i d i).id < 4096;rw [hd',hid];exact O.idr,?_,.inr (.inl ?_)⟩
  ·show(bT a.aF i d i).step≠0;rw [hd'];exact H.Jp
  ·show 0<=(bT a.aF i d i).aj/\(bT a.aF i d i).aj < c.aG;rw [hd',hd];exact hL
  ·show 1<=(bT a.aF i d i).aS/\(bT a.aF i d i).aS<=3;rw [hd',hk];exact O.aS
  ·show(bT a.aF i d i).aS=1->_->bT a.ent L _ (bT a.aF i d i).aj i=none;rw [hd',hd,aB,dZ];intro h h';refine hmiss h ?_;have h'':(bT a.aF i d i).step=1∨(bT a.aF i d i).step=2:=h';rw [hd'] at h'';exact h''
  ·show a.own (bT a.aF i d i).aj=i;rw [hd',hd];exact ho
 ·exact(I.ws _).same (i:=i) rfl (hws _) (λj hj=> aI hj) (λj hj=> aI hj)
 ·show bT a.val L v L≠[];rw [aB];exact hv
theorem lN.over(I:lN c a)(hi:0<=i/\i < c.au)(F:akF c a i){d:dL}(hd:d.step=0):lN c { a with aF:=bT a.aF i d,msg:=bT a.msg i .idle }:=by
 obtain⟨f1,f2,f3⟩:=F;have O:aef c a i:=by
  rcases I.dG i hi.1 hi.2 with⟨h,_⟩ | O
  ·omega
  ·exact O
 have hws:=I.LW (i:=i) (by rw [f3];exact λe=> by cases e);have hL:=O.aj;refine I.upd i (a.aF i).aj hi.1 (λ_ _=> rfl) (λ_ _=> rfl) (λ_ _=> rfl) (λ_ _=> rfl) (λ_ _=> rfl) (λj hj=> aI hj) (λj hj=> aI hj) (λ_ _ h=> h) (λj h0 hj=> Iff.rfl) (λ_ _ _ h=> h) (I.aeg hi.1 (.inl rfl)) (λL' _=> hws L') hL ?_ ?_ ?_ (I.val _ hL.1 hL.2)
 ·rcases I.aj _ hL.1 hL.2 with h | ⟨b1,b2,b3,b4⟩
  ·exact .inl h
  ·refine .inr ?_;show 0<=a.own (a.aF i).aj/\a.own (a.aF i).aj < c.au/\(bT a.aF i d (a.own (a.aF i).aj)).aj=(a.aF i).aj/\Hold _ _ _ _ _ _ (bT a.aF i d (a.own (a.aF i).aj)) (bT a.msg i _ (a.own (a.aF i).aj));rw [aI f2,aI f2];exact⟨b1,b2,b3,b4⟩
 ·refine .inl ⟨?_,aB⟩;show(bT a.aF i d i).step=0;rw [aB];exact hd
 ·exact(I.ws _).same (i:=i) rfl (hws _) (λj hj=> aI hj) (λj hj=> aI hj)
theorem Wf.touch {N:Int}{E:pG}{r:Row}{v v':List Int}{l:List Int}(W:Wf N E r v l){e e':Ent}(he:E i=some e)(hb:e'.back=e.back)(hf:e'.fwd=e.fwd)(hd:e'.bG=e.bG)(hv:(e'.data=e.data/\v'=v)∨(e.bG=true/\e'.data=v')):Wf N (lM E i (some e')) r v' l:=by
 have ch:Chn (lM E i (some e')) (-1) l (-1):=by
  have key:∀(l:List Int) (b x:Int),Chn E b l x->Chn (lM E i (some e')) b l x:=by
   intro l
   induction l with
   | nil=> intro b x _;trivial
   | cons j l ih=>
    intro b x h;obtain⟨⟨e0,h1,h2,h3⟩,hc⟩:=h;refine⟨?_,ih j x hc⟩;by_cases hj:j=i
    ·subst hj;rw [he] at h1;cases h1;exact⟨e',dZ,by rw [hb,h2],by rw [hf,h3]⟩
    ·exact⟨e0,by rw [dN hj];exact h1,h2,h3⟩
  exact key l _ _ W.ch
 refine⟨W.rng,ch,λj x hj=> ?_,W.head,W.st,W.st0,W.st2,λj x hj=> ?_,λj x hj=> ?_,λh2=> ?_⟩
 ·rcases iK hj with⟨h,_⟩ | ⟨_,h⟩
  ·rw [h];exact W.mem i e he
  ·exact W.mem j x h
 ·rcases iK hj with⟨h,h'⟩ | ⟨_,h⟩
  ·cases h';rw [hd];exact W.bG i e he
  ·exact W.bG j x h
 ·rcases iK hj with⟨h,h'⟩ | ⟨hji,h⟩
  ·cases h';rcases hv with⟨a1,a2⟩ | ⟨_,a2⟩
   ·rw [a1,a2];exact W.data i e he
   ·exact a2
  ·rcases hv with⟨_,a2⟩ | ⟨a1,_⟩
   ·rw [a2];exact W.data j x h
   ·obtain⟨q,hq⟩:=W.st2 ((W.bG i e he).1 a1);have h1:=W.mem i e he;have h2:=W.mem j x h;rw [hq] at h1 h2;simp only [zai,zaK,or_false] at h1 h2;exact absurd (h2.trans h1.symm) hji
 ·rcases hv with⟨_,a2⟩ | ⟨a1,_⟩
  ·rw [a2];exact W.zo h2
  ·exact absurd ((W.bG i e he).1 a1) h2
theorem EC {E:pG}{e e':Ent}(he:E i=some e)(hf:e'.fwd=e.fwd):∀{l:List Int},FCh E l->FCh (lM E i (some e')) l
 | [],_=> trivial
 | j::l,⟨⟨e0,h1,h2⟩,hc⟩=> by
  refine⟨?_,EC he hf hc⟩;by_cases hj:j=i
  ·subst hj;rw [he] at h1;cases h1;exact⟨e',dZ,by rw [hf,h2]⟩
  ·exact⟨e0,by rw [dN hj];exact h1,h2⟩
theorem lI {E:pG}{e e':Ent}(he:E i=some e)(hb:e'.back=e.back)(hf:e'.fwd=e.fwd):∀{l:List Int} {b x:Int},Chn E b l x->Chn (lM E i (some e')) b l x
 | [],_,_,_=> trivial
 | j::l,b,x,⟨⟨e0,h1,h2,h3⟩,hc⟩=> by
  refine⟨?_,lI he hb hf hc⟩;by_cases hj:j=i
  ·subst hj;rw [he] at h1;cases h1;exact⟨e',dZ,by rw [hb,h2],by rw [hf,h3]⟩
  ·exact⟨e0,by rw [dN hj];exact h1,h2,h3⟩
theorem Hold.touch {N hm:Int}{E:pG}{r:Row}{v v':List Int}{k:Int}{d:dL}{o:Out}(H:Hold N hm E r v k d o)(hik:i≠k){e e':Ent}(he:E i=some e)(hb:e'.back=e.back)(hf:e'.fwd=e.fwd)(hd:e'.bG=e.bG)(hv:(e'.data=e.data/\v'=v)∨(e.bG=true/\e'.data=v')):Hold N hm (lM E i (some e')) r v' k d o:=by
 have some_:∀j x,lM E i (some e') j=some x->∃y,E j=some y/\x.bG=y.bG:=λj x hj=> by
  rcases iK hj with⟨h,h'⟩ | ⟨_,h⟩
  ·cases h';rw [h];exact⟨e,he,hd⟩
  ·exact⟨x,h,rfl⟩
 -- where nothing is bG the aH are as they were
 have clean:(∀j x,E j=some x->x.bG=false)->(∀j x,E j=some x->x.data=v)->v'=v/\∀j x,lM E i (some e') j=some x->x.data=v:=λhc hdt=> by
  have h0:=hc i e he;rcases hv with⟨a1,a2⟩ | ⟨a1,_⟩
  ·refine⟨a2,λj x hj=> ?_⟩;rcases iK hj with⟨_,h'⟩ | ⟨_,h⟩
   ·cases h';rw [a1];exact hdt i e he
   ·exact hdt j x h
  ·rw [h0] at a1;cases a1
 have mid:∀{pre post:List Int},Mid N E r v k pre post->v'=v/\Mid N (lM E i (some e')) r v k pre post:=λM=> by
  obtain⟨c1,c2⟩:=clean M.bG M.data;obtain⟨ek,hk⟩:=M.ent;refine⟨c1,M.rng,λj x hj=> ?_,⟨ek,by rw [dN hik.symm];exact hk⟩,M.head,M.st,λj x hj=> ?_,c2,M.zo⟩
  ·obtain⟨y,hy,_⟩:=some_ j x hj;exact M.mem j y hy
  ·obtain⟨y,hy,h⟩:=some_ j x hj;rw [h];exact M.bG j y hy
 cases H with
 | granted h1 W=> exact .granted h1 (W.touch he hb hf hd hv)
 | attach h1 h2 h3 h4 W=> exact .attach h1 h2 h3 h4 (W.touch he hb hf hd hv)
 | attached h1 h2 h3 h4 R C M D X F=>
  obtain⟨c1,c2⟩:=clean D X;subst c1;exact .attached h1 h2 h3 h4 R (lI he hb hf C) (λj x hj=> by obtain⟨y,hy,_⟩:=some_ j x hj;exact M j y hy) (λj x hj=> by obtain⟨y,hy,h⟩:=some_ j x hj;rw [h];exact D j y hy) c2 F
 | EX h1 h2 L h3 h4=>
  have aic:E k≠none->v'=v:=λhk=> by
   rcases hv with⟨_,a2⟩ | ⟨a1,_⟩
   ·exact a2
   ·exact absurd (L.only i e he a1 k hk) hik.symm
  refine .EX h1 h2 ⟨L.rng,EC he hf L.ch,λj x hj=> ?_,λj x hj=> ?_,λj x hj hdj q hq=> ?_⟩ h3 λhk=> ?_
  ·obtain⟨y,hy,_⟩:=some_ j x hj;exact L.mem j y hy
  ·rcases iK hj with⟨_,h'⟩ | ⟨hji,h⟩
   ·cases h';rcases hv with⟨a1,a2⟩ | ⟨_,a2⟩
    ·rw [a1,a2];exact L.data i e he
    ·exact a2
   ·rcases hv with⟨_,a2⟩ | ⟨a1,_⟩
    ·rw [a2];exact L.data j x h
    ·exact absurd (L.only i e he a1 j (by rw [h];simp)) hji
  ·obtain⟨y,hy,hyd⟩:=some_ j x hj;refine L.only j y hy (by rw [<-hyd];exact hdj) q ?_;intro hq0;by_cases hqi:q=i
   ·rw [hqi,he] at hq0;cases hq0
   ·rw [dN hqi] at hq;exact hq hq0
  ·rw [dN hik.symm] at hk;rw [aic hk];exact h4 hk
 | Eu h1 h2 L h3 h4=>
  obtain⟨c1,c2⟩:=clean h3 L.data;subst c1;refine .Eu h1 h2 ⟨L.rng,EC he hf L.ch,λj x hj=> ?_,c2,λj x hj hdj q hq=> ?_⟩ (λj x hj=> ?_) λhk=> ?_
  ·obtain⟨y,hy,_⟩:=some_ j x hj;exact L.mem j y hy
  ·obtain⟨y,hy,hyd⟩:=some_ j x hj;rw [hyd,h3 j y hy] at hdj;cases hdj
  ·obtain⟨y,hy,hyd⟩:=some_ j x hj;rw [hyd];exact h3 j y hy
  ·rw [dN hik.symm] at hk;exact h4 hk
 | front h1 h2 M h3 C h4 h5 h6=>
  obtain⟨c1,c2⟩:=mid M;subst c1;exact .front h1 h2 c2 h3 (lI he hb hf C) h4 h5 h6
 | wB h1 h2 M h3 C C' h4 h5 h6=>
  obtain⟨c1,c2⟩:=mid M;subst c1;exact .wB h1 h2 c2 h3 (lI he hb hf C) (lI he hb hf C') h4 h5 h6
 | behind h1 h2 M h3 C C' h4 h5 h6=>
  obtain⟨c1,c2⟩:=mid M;subst c1;exact .behind h1 h2 c2 h3 (lI he hb hf C) (lI he hb hf C') h4 h5 h6
 | qY h1 h2 M h3 C C' h4 h5 h6=>
  obtain⟨c1,c2⟩:=mid M;subst c1;exact .qY h1 h2 c2 h3 (lI he hb hf C) (lI he hb hf C') h4 h5 h6
 | unlock h1 W=> exact .unlock h1 (W.touch he hb hf hd hv)
theorem lN.hit(I:lN c a)(hi:0<=i/\i < c.au)(h0:(a.aF i).step=0)(hL:0<=L/\L < c.aG){e e':Ent}{v':List Int}(he:a.ent L i=some e)(hb:e'.back=e.back)(hf:e'.fwd=e.fwd)(hd:e'.bG=e.bG)(hv:(e'.data=e.data/\v'=a.val L)∨(e.bG=true/\e'.data=v'))(hn:v'≠[]):
  lN c { a with ent:=bT a.ent L (lM (a.ent L) i (some e')),val:=bT a.val L v' }:=by
 have hown:∀L',a.own L'≠i:=λL' e=> (I.only hi.1 L' e).2 h0;have hno:(a.aF i).step=0/\a.msg i=.idle:=by
  rcases I.dG i hi.1 hi.2 with h | O
  ·exact h
  ·exact absurd h0 O.step
 have hws:=I.LW (i:=i) (by rw [hno.2];exact λe=> by cases e);refine I.upd i L hi.1 (λ_ h=> aI h) (λ_ _=> rfl) (λ_ _=> rfl) (λ_ _=> rfl) (λ_ h=> aI h) (λ_ _=> rfl) (λ_ _=> rfl) (λj hj h=> ?_) (λ_ _ _=> Iff.rfl) (λ_ _ _ h=> h) (λL' _=> hown L') (λL' _=> hws L') hL ?_ (.inl hno) ?_ ?_
 ·show bT a.ent L _ L j=none;rw [aB,dN hj];exact h
 ·rcases I.aj L hL.1 hL.2 with⟨b1,l,W⟩ | ⟨b1,b2,b3,b4⟩
  ·refine .inl ⟨b1,l,?_⟩;show Wf _ (bT a.ent L _ L) _ (bT a.val L v' L) l;rw [aB,aB];exact W.touch he hb hf hd hv
  ·refine .inr ⟨b1,b2,b3,?_⟩;unfold Abs.holds at b4 ⊢;show Hold _ _ (bT a.ent L _ L) _ (bT a.val L v' L) _ _ _;rw [aB,aB];exact b4.touch (hown L).symm he hb hf hd hv
 ·exact(I.ws L).same (i:=i) rfl (hws L) (λ_ _=> rfl) (λ_ _=> rfl)
 ·show bT a.val L v' L≠[];rw [aB];exact hn
end
def Jq(p:Port):List Pkt:=p.rq++p.rin
def Jr(p:Port):List Pkt:=p.an++p.ain
def Js(f:Fab):List Pkt:=f.l.flatMap Jq
def Jt(f:Fab):List Pkt:=f.l.flatMap Jr
structure Xz(msg:Int->Out)(k:Int)(q:Port):Prop where
 rq:∀p∈q.rq,p.src=k/\wQ p.aS=true/\msg k=.req p
 rin:∀p∈q.rin,p.dst=k/\wQ p.aS=true/\msg p.src=.req p
 an:∀p∈q.an,p.src=k/\wQ p.aS=false/\msg p.dst=.ans p
 ain:∀p∈q.ain,p.dst=k/\wQ p.aS=false/\msg k=.ans p
structure oG(f:Fab)(msg:Int->Out):Prop where
 port:∀(k:Nat) q,f.l[k]?=some q->Xz msg k q
 rn:((Js f).map (·.src)).Nodup
 an:((Jt f).map (·.dst)).Nodup
 rc:∀i p,msg i=.req p->p∈Js f
 ac:∀i p,msg i=.ans p->p∈Jt f
 src:∀i p,msg i=.req p->p.src=i
 dst:∀i p,msg i=.ans p->p.dst=i
 rg:∀i p,msg i=.req p∨msg i=.ans p->f.is i=true
theorem nD {g:Port->List Pkt}{q q':Port}:∀{l:List Port} {k:Nat},l[k]?=some q->∀{x y:List Pkt},(x++g q').Perm (y++g q)->(x++(l.set k q').flatMap g).Perm (y++l.flatMap g)
 | [],k,h,_,_,_=> by simp at h
 | p::l,0,h,x,y,hp=> by
  simp only [za2,zaa] at h;subst h;simp only [zb8,zaV,<-zbl];exact hp.append_right _
 | p::l,k+1,h,x,y,hp=> by
  simp only [zbx] at h;have ih:=nD h hp;simp only [zb9,zaV];have c1:(x++(g p++(l.set k q').flatMap g)).Perm (g p++(x++(l.set k q').flatMap g)):=by
   rw [<-zbl,<-zbl];exact List.perm_append_comm.append_right _
  have c2:(g p++(y++l.flatMap g)).Perm (y++(g p++l.flatMap g)):=by
   rw [<-zbl,<-zbl];exact List.perm_append_comm.append_right _
  exact c1.trans ((ih.append_left _).trans c2)
theorem iZ {f:Fab}{i:Int}(h:f.is i=true):f.l[i.toNat]?=some (f.port i):=by
 unfold Fab.is at h;simp only [zae,decide_eq_true_eq] at h;unfold Fab.port;rw [zaq,zab (by omega),zax]
theorem Ju {f:Fab}{i:Int}{q:Port}(h:f.is i=true){k:Nat}{q':Port}(hk:(f.put i q).l[k]?=some q'):(k=i.toNat/\q'=q)∨(k≠i.toNat/\f.l[k]?=some q'):=by
 simp only [Fab.put] at hk;by_cases e:i.toNat=k
 ·rw [e] at hk;have hlt:k < f.l.length:=by
   unfold Fab.is at h;simp only [zae,decide_eq_true_eq] at h;omega
  rw [zba hlt] at hk;exact .inl ⟨e.symm,(zaT hk).symm⟩
 ·rw [zbg e] at hk;exact .inr ⟨λh=> e h.symm,hk⟩
theorem xX {f:Fab}{i:Int}(h:f.is i=true):((i.toNat:Nat):Int)=i:=by
 unfold Fab.is at h;simp only [zae,decide_eq_true_eq] at h;omega
section
variable {f:Fab}{msg:Int->Out}{i:Int}{p:Pkt}
theorem oG.at_(R:oG f msg)(h:f.is i=true):Xz msg i (f.port i):=by
 have:=R.port _ _ (iZ h);rw [xX h] at this;exact this
theorem xY {k:Nat}{q:Port}(h:f.l[k]?=some q)(hp:p∈q.rq∨p∈q.rin):p∈Js f:=za8.2 ⟨q,zat h,zaO.2 hp⟩
theorem xZ {k:Nat}{q:Port}(h:f.l[k]?=some q)(hp:p∈q.an∨p∈q.ain):p∈Jt f:=za8.2 ⟨q,zat h,zaO.2 hp⟩
theorem oG.req(R:oG f msg)(h:p∈Js f):msg p.src=.req p:=by
 obtain⟨q,hq,hp⟩:=za8.1 h;obtain⟨k,hk⟩:=zc2.1 hq;rcases zaO.1 hp with hp | hp
 ·obtain⟨a,_,b⟩:=(R.port k q hk).rq p hp;rw [a];exact b
 ·exact((R.port k q hk).rin p hp).2.2
theorem oG.ans(R:oG f msg)(h:p∈Jt f):msg p.dst=.ans p:=by
 obtain⟨q,hq,hp⟩:=za8.1 h;obtain⟨k,hk⟩:=zc2.1 hq;rcases zaO.1 hp with hp | hp
 ·exact((R.port k q hk).an p hp).2.2
 ·obtain⟨a,_,b⟩:=(R.port k q hk).ain p hp;rw [a];exact b
theorem oG.aie(R:oG f msg)(h0:∀q,msg p.src≠.req q)(h1:∀q,msg p.src≠.ans q)(hok:p.ok=true)(hk:wQ p.aS=true)(hs:f.is p.src=true)(hd:f.is p.dst=true)(ho:1<=f.out):
  (f.send p).2=0/\oG (f.send p).1 (bT msg p.src (.req p)):=by
 have P:=R.at_ hs;have he:(f.port p.src).rq=[]:=by
  cases e:(f.port p.src).rq with
  | nil=> rfl
  | cons q l=> exact absurd (P.rq q (by rw [e];simp)).2.2 (h0 q)
 have hsend:f.send p=(f.put p.src { f.port p.src with rq:=[p] },0):=by
  unfold Fab.send;simp only [hok,hs,hd,hk,Port.sort,Port.lF,if_true,he,zak,zaS,zar,Bool.or_self,zaj,if_false];rw [if_neg (by omega)]
 rw [hsend];refine⟨rfl,?_⟩;have pr:(Js (f.put p.src { f.port p.src with rq:=[p] })).Perm (p::Js f):=by
  have:=nD (g:=Jq) (iZ hs) (q':={ f.port p.src with rq:=[p] }) (x:=[]) (y:=[p]) (by simp [Jq,he])
  simpa [Js,Fab.put] using this
 have pa:(Jt (f.put p.src { f.port p.src with rq:=[p] })).Perm (Jt f):=by
  have:=nD (g:=Jr) (iZ hs) (q':={ f.port p.src with rq:=[p] }) (x:=[]) (y:=[]) (by simp [Jr])
  simpa [Jt,Fab.put] using this
 have mne:∀j q,msg j=.req q∨msg j=.ans q->bT msg p.src (.req p) j=msg j:=λj q h=> aI λe=> by
  subst e;rcases h with h | h
  ·exact h0 q h
  ·exact h1 q h
 refine⟨λk q hk'=> ?_,?_,?_,λj q hj=> ?_,λj q hj=> ?_,λj q hj=> ?_,λj q hj=> ?_,λj q hj=> ?_⟩
 ·rcases Ju hs hk' with⟨e,rfl⟩ | ⟨_,h⟩
  ·have e':(k:Int)=p.src:=by rw [e];exact xX hs
   rw [e'];refine⟨λq hq=> ?_,λq hq=> ?_,λq hq=> ?_,λq hq=> ?_⟩
   ·simp only [zai,zaK,or_false] at hq;subst hq;exact⟨rfl,hk,aB⟩
   ·obtain⟨a,b,c⟩:=P.rin q hq;exact⟨a,b,by rw [mne _ _ (.inl c)];exact c⟩
   ·obtain⟨a,b,c⟩:=P.an q hq;exact⟨a,b,by rw [mne _ _ (.inr c)];exact c⟩
   ·obtain⟨a,b,c⟩:=P.ain q hq;exact⟨a,b,by rw [mne _ _ (.inr c)];exact c⟩
  ·have Q:=R.port k q h;refine⟨λq hq=> ?_,λq hq=> ?_,λq hq=> ?_,λq hq=> ?_⟩
   ·obtain⟨a,b,c⟩:=Q.rq q hq;exact⟨a,b,by rw [mne _ _ (.inl c)];exact c⟩
   ·obtain⟨a,b,c⟩:=Q.rin q hq;exact⟨a,b,by rw [mne _ _ (.inl c)];exact c⟩
   ·obtain⟨a,b,c⟩:=Q.an q hq;exact⟨a,b,by rw [mne _ _ (.inr c)];exact c⟩
   ·obtain⟨a,b,c⟩:=Q.ain q hq;exact⟨a,b,by rw [mne _ _ (.inr c)];exact c⟩
 ·refine((pr.map _).nodup_iff).2 (zaW.2 ⟨λhm=> ?_,R.rn⟩);obtain⟨q,hq,e⟩:=zaD.1 hm;have:=R.req hq;simp only at e;rw [e] at this;exact h0 q this
 ·exact((pa.map _).nodup_iff).2 R.an
 ·by_cases e:j=p.src
  ·rw [e,aB] at hj;cases hj;exact pr.mem_iff.2 (by simp)
  ·rw [aI e] at hj;exact pr.mem_iff.2 (zaZ _ (R.rc j q hj))
 ·by_cases e:j=p.src
  ·rw [e,aB] at hj;cases hj
  ·rw [aI e] at hj;exact pa.mem_iff.2 (R.ac j q hj)
 ·by_cases e:j=p.src
  ·rw [e,aB] at hj;cases hj;exact e.symm
  ·rw [aI e] at hj;exact R.src j q hj
 ·by_cases e:j=p.src
  ·rw [e,aB] at hj;cases hj
  ·rw [aI e] at hj;exact R.dst j q hj
 ·have hl:(f.put p.src { f.port p.src with rq:=[p] }).is j=f.is j:=by simp [Fab.is,Fab.put]
  rw [hl];by_cases e:j=p.src
  ·rw [e];exact hs
  ·rw [aI e] at hj;exact R.rg j q hj
theorem oG.TQ(R:oG f msg)(h0:∀q,msg p.dst≠.req q)(h1:∀q,msg p.dst≠.ans q)(hok:p.ok=true)(hk:wQ p.aS=false)(hs:f.is p.src=true)(hd:f.is p.dst=true)(ho:f.roomOf p.src false > 0):
  (f.send p).2=0/\oG (f.send p).1 (bT msg p.dst (.ans p)):=by
 have P:=R.at_ hs;have hsend:f.send p=(f.put p.src { f.port p.src with an:=(f.port p.src).an++[p] },0):=by
  unfold Fab.send;unfold Fab.roomOf at ho;rw [if_pos hs] at ho;simp only [Port.sort,zaj,if_false] at ho;simp only [hok,hs,hd,hk,Port.sort,Port.lF,zar,Bool.or_self,zaj,if_false];rw [if_neg (by omega)]
 rw [hsend];refine⟨rfl,?_⟩;have pa:(Jt (f.put p.src { f.port p.src with an:=(f.port p.src).an++[p] })).Perm (p::Jt f):=by
  have:=nD (g:=Jr) (iZ hs) (q':={ f.port p.src with an:=(f.port p.src).an++[p] }) (x:=[]) (y:=[p]) (by
   simp only [Jr,zaS,zbl,zc3];exact zcX)
  simpa [Jt,Fab.put] using this
 have pr:(Js (f.put p.src { f.port p.src with an:=(f.port p.src).an++[p] })).Perm (Js f):=by
  have:=nD (g:=Jq) (iZ hs) (q':={ f.port p.src with an:=(f.port p.src).an++[p] }) (x:=[]) (y:=[]) (by simp [Jq])
  simpa [Js,Fab.put] using this
 have mne:∀j q,msg j=.req q∨msg j=.ans q->bT msg p.dst (.ans p) j=msg j:=λj q h=> aI λe=> by
  subst e;rcases h with h | h
  ·exact h0 q h
  ·exact h1 q h
 refine⟨λk q hk'=> ?_,?_,?_,λj q hj=> ?_,λj q hj=> ?_,λj q hj=> ?_,λj q hj=> ?_,λj q hj=> ?_⟩
 ·rcases Ju hs hk' with⟨e,rfl⟩ | ⟨_,h⟩
  ·have e':(k:Int)=p.src:=by rw [e];exact xX hs
   rw [e'];refine⟨λq hq=> ?_,λq hq=> ?_,λq hq=> ?_,λq hq=> ?_⟩
   ·obtain⟨a,b,c⟩:=P.rq q hq;exact⟨a,b,by rw [mne _ _ (.inl c)];exact c⟩
   ·obtain⟨a,b,c⟩:=P.rin q hq;exact⟨a,b,by rw [mne _ _ (.inl c)];exact c⟩
   ·rcases zaO.1 hq with hq | hq
    ·obtain⟨a,b,c⟩:=P.an q hq;exact⟨a,b,by rw [mne _ _ (.inr c)];exact c⟩
    ·simp only [zai,zaK,or_false] at hq;subst hq;exact⟨rfl,hk,aB⟩
   ·obtain⟨a,b,c⟩:=P.ain q hq;exact⟨a,b,by rw [mne _ _ (.inr c)];exact c⟩
  ·have Q:=R.port k q h;refine⟨λq hq=> ?_,λq hq=> ?_,λq hq=> ?_,λq hq=> ?_⟩
   ·obtain⟨a,b,c⟩:=Q.rq q hq;exact⟨a,b,by rw [mne _ _ (.inl c)];exact c⟩
   ·obtain⟨a,b,c⟩:=Q.rin q hq;exact⟨a,b,by rw [mne _ _ (.inl c)];exact c⟩
   ·obtain⟨a,b,c⟩:=Q.an q hq;exact⟨a,b,by rw [mne _ _ (.inr c)];exact c⟩
   ·obtain⟨a,b,c⟩:=Q.ain q hq;exact⟨a,b,by rw [mne _ _ (.inr c)];exact c⟩
 ·exact((pr.map _).nodup_iff).2 R.rn
 ·refine((pa.map _).nodup_iff).2 (zaW.2 ⟨λhm=> ?_,R.an⟩);obtain⟨q,hq,e⟩:=zaD.1 hm;have:=R.ans hq;simp only at e;rw [e] at this;exact h1 q this
 ·by_cases e:j=p.dst
  ·rw [e,aB] at hj;cases hj
  ·rw [aI e] at hj;exact pr.mem_iff.2 (R.rc j q hj)
 ·by_cases e:j=p.dst
  ·rw [e,aB] at hj;cases hj;exact pa.mem_iff.2 (by simp)
  ·rw [aI e] at hj;exact pa.mem_iff.2 (zaZ _ (R.ac j q hj))
 ·by_cases e:j=p.dst
  ·rw [e,aB] at hj;cases hj
  ·rw [aI e] at hj;exact R.src j q hj
 ·by_cases e:j=p.dst
  ·rw [e,aB] at hj;cases hj;exact e.symm
  ·rw [aI e] at hj;exact R.dst j q hj
 ·have hl:(f.put p.src { f.port p.src with an:=(f.port p.src).an++[p] }).is j=f.is j:=by simp [Fab.is,Fab.put]
  rw [hl];by_cases e:j=p.dst
  ·rw [e];exact hd
  ·rw [aI e] at hj;exact R.rg j q hj
theorem oG.takeA(R:oG f msg){f':Fab}(h:f.take i false=(f',some p)):f.is i=true/\p.dst=i/\wQ p.aS=false/\msg i=.ans p/\oG f' (bT msg i .idle)/\f'.out=f.out/\f'.l.length=f.l.length:=by
 unfold Fab.take at h;split at h
 case isFalse=> cases h
 rename_i hs;split at h
 ·cases h
 rename_i p' l hl;simp only [zad,zaa] at h;obtain⟨rfl,rfl⟩:=h;simp only [Port.YK,zaj,if_false] at hl;have P:=R.at_ hs;obtain⟨b1,b2,b3⟩:=P.ain p' (by rw [hl];simp);refine⟨hs,b1,b2,b3,?_,rfl,by simp [Fab.put]⟩;have hset:(f.port i).yO false l={ f.port i with ain:=l }:=by simp [Port.yO]
 rw [hset];have pa:(p'::Jt (f.put i { f.port i with ain:=l })).Perm (Jt f):=by
  have:=nD (g:=Jr) (iZ hs) (q':={ f.port i with ain:=l }) (x:=[p']) (y:=[]) (by
   simp only [Jr,zaS,hl,zc3];exact zcX.symm)
  simpa [Jt,Fab.put] using this
 have pr:(Js (f.put i { f.port i with ain:=l })).Perm (Js f):=by
  have:=nD (g:=Jq) (iZ hs) (q':={ f.port i with ain:=l }) (x:=[]) (y:=[]) (by simp [Jq])
  simpa [Js,Fab.put] using this
 have nd:(p'.dst::(Jt (f.put i { f.port i with ain:=l })).map (·.dst)).Nodup:=((pa.map Pkt.dst).nodup_iff).2 R.an;have gone:∀q∈Jt (f.put i { f.port i with ain:=l }),q.dst≠i:=λq hq e=> (zaW.1 nd).1 (zaD.2 ⟨q,hq,e.trans b1.symm⟩);have aiJ:∀q∈Js f,q.src≠i:=λq hq e=> by
  have:=R.req hq;rw [e,b3] at this;cases this
 refine⟨λk q hk'=> ?_,?_,?_,λj q hj=> ?_,λj q hj=> ?_,λj q hj=> ?_,λj q hj=> ?_,λj q hj=> ?_⟩
 ·have hmem:∀x,(x∈q.an∨x∈q.ain)->x.dst≠i:=λx hx=> gone x (xZ hk' hx);rcases Ju hs hk' with⟨e,rfl⟩ | ⟨_,h⟩
  ·have e':(k:Int)=i:=by rw [e];exact xX hs
   rw [e'];refine⟨λq hq=> ?_,λq hq=> ?_,λq hq=> ?_,λq hq=> ?_⟩
   ·exact absurd ((P.rq q hq).1) (aiJ q (xY (iZ hs) (.inl hq)))
   ·obtain⟨a,b,c⟩:=P.rin q hq;exact⟨a,b,by rw [aI (aiJ q (xY (iZ hs) (.inr hq)))];exact c⟩
   ·obtain⟨a,b,c⟩:=P.an q hq;exact⟨a,b,by rw [aI (hmem q (.inl hq))];exact c⟩
   ·have:=hmem q (.inr hq);exact absurd (P.ain q (by rw [hl];exact zaZ _ hq)).1 this
  ·have Q:=R.port k q h;refine⟨λx hx=> ?_,λx hx=> ?_,λx hx=> ?_,λx hx=> ?_⟩
   ·obtain⟨a,b,c⟩:=Q.rq x hx;have:=aiJ x (xY h (.inl hx));exact⟨a,b,by rw [aI (by omega)];exact c⟩
   ·obtain⟨a,b,c⟩:=Q.rin x hx;exact⟨a,b,by rw [aI (aiJ x (xY h (.inr hx)))];exact c⟩
   ·obtain⟨a,b,c⟩:=Q.an x hx;exact⟨a,b,by rw [aI (hmem x (.inl hx))];exact c⟩
   ·obtain⟨a,b,c⟩:=Q.ain x hx;have:=hmem x (.inr hx);exact⟨a,b,by rw [aI (by omega)];exact c⟩
 ·exact((pr.map _).nodup_iff).2 R.rn
 ·exact(zaW.1 nd).2
 ·by_cases e:j=i
  ·rw [e,aB] at hj;cases hj
  ·rw [aI e] at hj;exact pr.mem_iff.2 (R.rc j q hj)
 ·by_cases e:j=i
  ·rw [e,aB] at hj;cases hj
  ·rw [aI e] at hj;rcases zai.1 (pa.mem_iff.2 (R.ac j q hj)) with h | h
   ·have:=R.dst j q hj;rw [h,b1] at this;exact absurd this.symm e
   ·exact h
 ·by_cases e:j=i
  ·rw [e,aB] at hj;cases hj
  ·rw [aI e] at hj;exact R.src j q hj
 ·by_cases e:j=i
  ·rw [e,aB] at hj;cases hj
  ·rw [aI e] at hj;exact R.dst j q hj
 ·have hl:(f.put i { f.port i with ain:=l }).is j=f.is j:=by simp [Fab.is,Fab.put]
  rw [hl];by_cases e:j=i
  ·rw [e];exact hs
  ·rw [aI e] at hj;exact R.rg j q hj
theorem oG.akG(R:oG f msg){f':Fab}(h:f.take i true=(f',some p)):f.is i=true/\p.dst=i/\wQ p.aS=true/\msg p.src=.req p/\oG f' (bT msg p.src .idle)/\f'.out=f.out/\f'.l.length=f.l.length/\(∀k,f'.roomOf k false=f.roomOf k false):=by
 unfold Fab.take at h;split at h
 case isFalse=> cases h
 rename_i hs;split at h
 ·cases h
 rename_i p' l hl;simp only [zad,zaa] at h;obtain⟨rfl,rfl⟩:=h;simp only [Port.YK,if_true] at hl;have P:=R.at_ hs;obtain⟨b1,b2,b3⟩:=P.rin p' (by rw [hl];simp);have hset:(f.port i).yO true l={ f.port i with rin:=l }:=by simp [Port.yO]
 rw [hset];refine⟨hs,b1,b2,b3,?_,rfl,by simp [Fab.put],λk=> ?_⟩;rotate_left
 ·have hp:=hs;unfold Fab.is at hp;simp only [zae,decide_eq_true_eq] at hp;unfold Fab.roomOf Fab.is Fab.port Fab.put;simp only [zbX,zaq];by_cases e:i.toNat=k.toNat
  ·rw [<-e,zba (by omega)];simp only [zax,Port.sort,zaj,if_false]
  ·rw [zbg e]
 have pr:(p'::Js (f.put i { f.port i with rin:=l })).Perm (Js f):=by
  have:=nD (g:=Jq) (iZ hs) (q':={ f.port i with rin:=l }) (x:=[p']) (y:=[]) (by
   simp only [Jq,zaS,hl,zc3];exact zcX.symm)
  simpa [Js,Fab.put] using this
 have pa:(Jt (f.put i { f.port i with rin:=l })).Perm (Jt f):=by
  have:=nD (g:=Jr) (iZ hs) (q':={ f.port i with rin:=l }) (x:=[]) (y:=[]) (by simp [Jr])
  simpa [Jt,Fab.put] using this
 have nd:(p'.src::(Js (f.put i { f.port i with rin:=l })).map (·.src)).Nodup:=((pr.map Pkt.src).nodup_iff).2 R.rn;have gone:∀q∈Js (f.put i { f.port i with rin:=l }),q.src≠p'.src:=λq hq e=> (zaW.1 nd).1 (zaD.2 ⟨q,hq,e⟩);have aiK:∀q∈Jt f,q.dst≠p'.src:=λq hq e=> by
  have:=R.ans hq;rw [e,b3] at this;cases this
 refine⟨λk q hk'=> ?_,?_,?_,λj q hj=> ?_,λj q hj=> ?_,λj q hj=> ?_,λj q hj=> ?_,λj q hj=> ?_⟩
 ·have hmem:∀x,(x∈q.rq∨x∈q.rin)->x.src≠p'.src:=λx hx=> gone x (xY hk' hx);rcases Ju hs hk' with⟨e,rfl⟩ | ⟨_,h⟩
  ·have e':(k:Int)=i:=by rw [e];exact xX hs
   rw [e'];refine⟨λq hq=> ?_,λq hq=> ?_,λq hq=> ?_,λq hq=> ?_⟩
   ·obtain⟨a,b,c⟩:=P.rq q hq;have:=hmem q (.inl hq);exact⟨a,b,by rw [aI (by omega)];exact c⟩
   ·obtain⟨a,b,c⟩:=P.rin q (by rw [hl];exact zaZ _ hq);exact⟨a,b,by rw [aI (hmem q (.inr hq))];exact c⟩
   ·obtain⟨a,b,c⟩:=P.an q hq;exact⟨a,b,by rw [aI (aiK q (xZ (iZ hs) (.inl hq)))];exact c⟩
   ·obtain⟨a,b,c⟩:=P.ain q hq;have:=aiK q (xZ (iZ hs) (.inr hq));exact⟨a,b,by rw [aI (by omega)];exact c⟩
  ·have Q:=R.port k q h;refine⟨λx hx=> ?_,λx hx=> ?_,λx hx=> ?_,λx hx=> ?_⟩
   ·obtain⟨a,b,c⟩:=Q.rq x hx;have:=hmem x (.inl hx);exact⟨a,b,by rw [aI (by omega)];exact c⟩
   ·obtain⟨a,b,c⟩:=Q.rin x hx;exact⟨a,b,by rw [aI (hmem x (.inr hx))];exact c⟩
   ·obtain⟨a,b,c⟩:=Q.an x hx;exact⟨a,b,by rw [aI (aiK x (xZ h (.inl hx)))];exact c⟩
   ·obtain⟨a,b,c⟩:=Q.ain x hx;have:=aiK x (xZ h (.inr hx));exact⟨a,b,by rw [aI (by omega)];exact c⟩
 ·exact(zaW.1 nd).2
 ·exact((pa.map _).nodup_iff).2 R.an
 ·by_cases e:j=p'.src
  ·rw [e,aB] at hj;cases hj
  ·rw [aI e] at hj;rcases zai.1 (pr.mem_iff.2 (R.rc j q hj)) with h | h
   ·have:=R.src j q hj;rw [h] at this;exact absurd this.symm e
   ·exact h
 ·by_cases e:j=p'.src
  ·rw [e,aB] at hj;cases hj
  ·rw [aI e] at hj;exact pa.mem_iff.2 (R.ac j q hj)
 ·by_cases e:j=p'.src
  ·rw [e,aB] at hj;cases hj
  ·rw [aI e] at hj;exact R.src j q hj
 ·by_cases e:j=p'.src
  ·rw [e,aB] at hj;cases hj
  ·rw [aI e] at hj;exact R.dst j q hj
 ·have hl:(f.put i { f.port i with rin:=l }).is j=f.is j:=by simp [Fab.is,Fab.put]
  rw [hl];by_cases e:j=p'.src
  ·rw [e];exact R.rg _ p' (.inl b3)
  ·rw [aI e] at hj;exact R.rg j q hj
theorem TS {k:Nat}{q q':Port}:∀{l:List Port},l[k]?=some q->q'.rq=q.rq->q'.an=q.an->(l.set k q').flatMap (λq=> q.rq++q.an)=l.flatMap (λq=> q.rq++q.an):=by
 induction k with
 | zero=>
  intro l h a b;cases l with
  | nil=> simp at h
  | cons x l=>
   simp only [za2,zaa] at h;subst h;simp [a,b]
 | succ k ih=>
  intro l h a b;cases l with
  | nil=> simp at h
  | cons x l=>
   simp only [zbx] at h;simp only [zb9,zaV,ih h a b]
end
section
variable {c:Cache}{aj L:Int}{e x:Ent}
theorem LX(h:c.find aj=some e):e.aj=aj:=by
 unfold Cache.find at h;have:=zbM h
 simpa using this
theorem uy(hl:Lines c.l)(h0:0<=e.aj)(h:c.find e.aj=some x)(L:Int):(c.put e).1.find L=if L=e.aj then some { e with used:=x.used } else c.find L:=by
 rw [jX hl h0 h];unfold Cache.find;simp only [List.find?_map];have hf:((λy:Ent=> decide (y.aj=L)) ∘ λy:Ent=> if y.aj=e.aj then { e with used:=x.used } else y)=λy=> decide (y.aj=L):=by
  funext y
  simp only [Function.comp];by_cases hy:y.aj=e.aj
  ·simp [hy]
  ·simp [hy]
 rw [hf];by_cases hL:L=e.aj
 ·rw [if_pos hL,hL];unfold Cache.find at h;rw [h];have:=zbM h;simp only [decide_eq_true_eq] at this;simp [this]
 ·rw [if_neg hL];cases hq:c.l.find? λy=> decide (y.aj=L) with
  | none=> rfl
  | some y=>
   have:=zbM hq;simp only [decide_eq_true_eq] at this;have hne:¬y.aj=e.aj:=λh=> hL (this.symm.trans h);simp [hne]
theorem LY(hl:Lines c.l)(h0:0<=e.aj)(hn:c.find e.aj=none)(hf:c.full e.aj=false):∃u,∀L,(c.put e).1.find L=if L=e.aj then some { e with used:=u } else c.find L:=by
 refine⟨c.dH+1,λL=> ?_⟩;have h1:=vW.2 hn;unfold Cache.put;rw [if_neg (by omega),h1];simp only [hf,zaj,if_false];unfold Cache.find at hn ⊢;rw [zdl];by_cases hL:L=e.aj
 ·rw [if_pos hL,hL,hn];simp
 ·rw [if_neg hL];have:¬e.aj=L:=λh=> hL h.symm;simp [this]
theorem x8(hl:Lines c.l)(L:Int):(c.drop aj).find L=if L=aj then none else c.find L:=by
 rw [Dy hl];unfold Cache.find;simp only [List.find?_filter];by_cases hL:L=aj
 ·rw [if_pos hL,zbv];intro y _;simp only [decide_eq_true_eq,ne_eq,decide_not,za9,decide_eq_false_iff_not];rintro⟨h1,h2⟩;exact h1 (h2.trans hL)
 ·rw [if_neg hL]
  congr 1
  funext y
  by_cases hy:y.aj=L
  ·simp [hy,hL]
  ·simp [hy]
theorem TT(hl:Lines c.l)(h:c.find aj=some e)(L:Int):(c.touch aj).find L=if L=aj then some { e with used:=c.dH+1 } else c.find L:=by
 have he:=LX h;rw [uh hl h];unfold Cache.find;simp only [List.find?_map];have hf:((λy:Ent=> decide (y.aj=L)) ∘ λy:Ent=> if y.aj=aj then { e with used:=c.dH+1 } else y)=λy=> decide (y.aj=L):=by
  funext y
  simp only [Function.comp];by_cases hy:y.aj=aj
  ·simp [hy,he]
  ·simp [hy]
 rw [hf];by_cases hL:L=aj
 ·rw [if_pos hL,hL];unfold Cache.find at h;rw [h];simp [he]
 ·rw [if_neg hL];cases hq:c.l.find? λy=> decide (y.aj=L) with
  | none=> rfl
  | some y=>
   have:=zbM hq;simp only [decide_eq_true_eq] at this;have hne:¬y.aj=aj:=λh=> hL (this.symm.trans h);simp [hne]
end
section
variable {t:Turns}{aj who id L:Int}
theorem Fa(h:DI t)(h0:0<=who)(ho:t.owner aj=-1)(hw:t.ws aj=[]):(t.ask aj who id).2=true/\(∀L,(t.ask aj who id).1.owner L=if L=aj then who else t.owner L)/\∀L,(t.ask aj who id).1.ws L=t.ws L:=by
 have hd:t.owned aj=false:=by
  cases e:t.owned aj with
  | false=> rfl
  | true=> exact absurd ho ((h.owned aj).1 e)
 have ht:t.ask aj who id=({ t with gX:=qA t.gX aj who },true):=by
  unfold Turns.ask;rw [if_neg (by omega)];simp [hd,hw]
 rw [ht];refine⟨rfl,λL=> ?_,λL=> rfl⟩;unfold Turns.owner;simp only [fO];by_cases hL:L=aj
 ·simp [hL]
 ·rw [if_neg hL,if_neg (λh=> hL h.symm)]
theorem Fb(h:DI t)(h0:0<=who)(ho:t.owner aj≠-1∨t.ws aj≠[]):(t.ask aj who id).2=false/\(∀L,(t.ask aj who id).1.owner L=t.owner L)/\∀L,(t.ask aj who id).1.ws L=if L=aj then t.ws aj++[(who,id)] else t.ws L:=by
 have ht:t.ask aj who id=({ t with wait:=qA t.wait aj (t.ws aj++[(who,id)]) },false):=by
  unfold Turns.ask;rw [if_neg (by omega),if_pos];rcases ho with ho | ho
  ·rw [(h.owned aj).2 ho];simp
  ·simp [ho]
 rw [ht];refine⟨rfl,λL=> rfl,λL=> ?_⟩;unfold Turns.ws;simp only [fO];by_cases hL:L=aj
 ·simp [hL]
 ·rw [if_neg hL,if_neg (λh=> hL h.symm)]
theorem TU(h:DI t)(ho:t.owner aj=-1){w:Int × Int}{ws:List (Int × Int)}(hw:t.ws aj=w::ws):(t.next aj).2=some w/\(∀L,(t.next aj).1.owner L=if L=aj then w.1 else t.owner L)/\∀L,(t.next aj).1.ws L=if L=aj then ws else t.ws L:=by
 have hd:t.owned aj=false:=by
  cases e:t.owned aj with
  | false=> rfl
  | true=> exact absurd ho ((h.owned aj).1 e)
 have ht:t.next aj=({ gX:=qA t.gX aj w.1,wait:=qA t.wait aj ws },some w):=by
  unfold Turns.next
  simp [hd,hw]
 rw [ht];refine⟨rfl,λL=> ?_,λL=> ?_⟩
 ·unfold Turns.owner;simp only [fO];by_cases hL:L=aj
  ·simp [hL]
  ·rw [if_neg hL,if_neg (λh=> hL h.symm)]
 ·unfold Turns.ws;simp only [fO];by_cases hL:L=aj
  ·simp [hL]
  ·rw [if_neg hL,if_neg (λh=> hL h.symm)]
theorem Jv(h:DI t)(h0:0<=who)(ho:t.owner aj=who):(t.release aj who).2=0/\(∀L,(t.release aj who).1.owner L=if L=aj then -1 else t.owner L)/\∀L,(t.release aj who).1.ws L=t.ws L:=by
 have ha:jq t.gX aj=some who:=by
  unfold Turns.owner at ho;cases e:jq t.gX aj with
  | none=> rw [e] at ho;simp at ho;omega
  | some v=> rw [e] at ho;simp only [zax] at ho;rw [ho]
 have ht:t.release aj who=({ t with gX:=yN t.gX aj },0):=by
  unfold Turns.release;rw [if_pos ha]
 rw [ht];refine⟨rfl,λL=> ?_,λL=> rfl⟩;unfold Turns.owner;simp only [yT h.ok];by_cases hL:L=aj
 ·simp [hL]
 ·rw [if_neg hL,if_neg (λh=> hL h.symm)]
end
theorem Gw {dF:Rows}{aj:Int}{r:Row}(L:Int):jg (qA dF aj r) L=if L=aj then r else jg dF L:=by
 unfold jg;rw [fO];by_cases hL:L=aj
 ·simp [hL]
 ·rw [if_neg hL,if_neg (λh=> hL h.symm)]
def akH(s:Int):Nat:=if s=1 then 9 else if s=4 then 6 else if s=6 then 0 else 3
def loc(s:Int):Out->Nat
 | .idle=> 0
 | .req _=> 3
 | .wait=> 2
 | .ans _=> if s=3 then 4 else 1
def Dp(d:dL)(o:Out):Nat:=if d.step=0 then 13 else akH d.step+loc d.step o+if d.aS=3∨d.step=6 then 13 else 0
def wt(d:dL)(L:Int)(x:Option Ent):Nat:=if x=none then 0 else if d.aS=3/\d.step≠0/\d.step≠6/\d.aj=L then 3 else 16
theorem aeh {d:dL}{L:Int}{x:Option Ent}:wt d L x<=16:=by
 unfold wt;split
 ·omega
 ·split <;> omega
theorem XA {d:dL}{L:Int}:wt d L none=0:=rfl
theorem aif {d:dL}{L:Int}{e:Ent}:3<=wt d L (some e):=by
 unfold wt;rw [if_neg (zdb e)];split <;> omega
theorem aei {d:dL}{L:Int}{e e':Ent}:wt d L (some e)=wt d L (some e'):=by
 unfold wt;simp
theorem tK {d:dL}{L:Int}{x:Option Ent}(h:d.step=0∨d.step=6∨d.aj≠L∨d.aS≠3):wt d L x=if x=none then 0 else 16:=by
 unfold wt;split
 ·rfl
 ·rw [if_neg (by omega)]
def akI(s s':Int):Bool:=decide (akH s'+3 < akH s+if s=3 then 4 else 1)
theorem pz {d d':dL}{x y:Option Ent}{p q:Pkt}{L:Int}(hk:d'.aS=d.aS)(hl:d'.aj=d.aj)(h0:d.step≠0)(h6:d.step≠6)(hs:akI d.step d'.step=true)(hx:(d'.step≠6/\d'.step≠0/\y=x)∨(d'.step=6/\d.aS=3/\y=none)):Dp d' (.req q)+wt d' L y < Dp d (.ans p)+wt d L x:=by
 have hs:=of_decide_eq_true hs;have e1:loc d'.step (.req q)=3:=rfl;have e2:loc d.step (.ans p)=if d.step=3 then 4 else 1:=rfl;rcases hx with⟨h1,h2,rfl⟩ | ⟨h1,h2,rfl⟩
 ·have hw:wt d' L y=wt d L y:=by
   unfold wt;rw [hk,hl];simp only [h0,h6,h1,h2,ne_eq,not_false_eq_true,true_and]
  rw [hw];unfold Dp;rw [if_neg h0,if_neg h2,hk];simp only [h1,h6,or_false];rw [e1,e2];omega
 ·rw [XA];unfold Dp;rw [if_neg h0,if_neg (by omega),if_pos (.inr h1),if_pos (.inl h2)];rw [e1,e2];omega
def Ph(n:Int)(f:Int->Nat):Nat:=((List.range n.toNat).map λj:Nat=> f j).sum
theorem XB {f g:Nat->Nat}{i:Nat}:∀{n:Nat},i < n->(∀j,j≠i->g j=f j)->((List.range n).map g).sum+f i=((List.range n).map f).sum+g i
 | 0,h,_=> absurd h (Nat.not_lt_zero i)
 | n+1,h,hf=> by
  simp only [zbV,zbb,List.sum_append,zaA,zbz,zcH,List.sum_nil];by_cases e:i=n
  ·subst e;have:(List.range i).map g=(List.range i).map f:=zbd λj hj=> hf j (by have:=zaY.1 hj;omega);rw [this];omega
  ·have:=XB (f:=f) (g:=g) (n:=n) (by omega) hf;have:=hf n λh=> e h.symm;omega
theorem ED {n i:Int}{f g:Int->Nat}(hi:0<=i/\i < n)(h:∀j,j≠i->g j=f j):Ph n g+f i=Ph n f+g i:=by
 obtain⟨k,rfl⟩:∃k:Nat,i=k:=⟨i.toNat,by omega⟩
 exact XB (f:=λj=> f j) (g:=λj=> g j) (i:=k) (by omega) λj hj=> h j (by omega)
def pot(c:Cfg)(lf:Int->Nat)(a:Abs):Nat:=Ph c.au (λj=> 33*lf j+Dp (a.aF j) (a.msg j))+Ph c.au λj=> Ph c.aG λL=> wt (a.aF j) L (a.ent L j)
theorem Pj {c:Cfg}{lf lf':Int->Nat}{a a':Abs}{i k L:Int}(hi:0<=i/\i < c.au)(hk:0<=k/\k < c.au)(hL:0<=L/\L < c.aG)(h1:∀j,j≠i->lf' j=lf j/\a'.aF j=a.aF j/\a'.msg j=a.msg j)(h2:∀j L',j≠k∨L'≠L->wt (a'.aF j) L' (a'.ent L' j)=wt (a.aF j) L' (a.ent L' j))
  (h3:33*lf' i+Dp (a'.aF i) (a'.msg i)+wt (a'.aF k) L (a'.ent L k) < 33*lf i+Dp (a.aF i) (a.msg i)+wt (a.aF k) L (a.ent L k)):pot c lf' a' < pot c lf a:=by
 have e1:=ED (f:=λj=> 33*lf j+Dp (a.aF j) (a.msg j)) (g:=λj=> 33*lf' j+Dp (a'.aF j) (a'.msg j)) hi λj hj=> by
  obtain⟨b1,b2,b3⟩:=h1 j hj;simp only [b1,b2,b3]
 have e2:=ED (f:=λj=> Ph c.aG λL=> wt (a.aF j) L (a.ent L j)) (g:=λj=> Ph c.aG λL=> wt (a'.aF j) L (a'.ent L j)) hk λj hj=> by
  have:(λL=> wt (a'.aF j) L (a'.ent L j))=λL=> wt (a.aF j) L (a.ent L j):=funext λL'=> h2 j L' (.inl hj);simp only [this]
 have e3:=ED (f:=λL=> wt (a.aF k) L (a.ent L k)) (g:=λL=> wt (a'.aF k) L (a'.ent L k)) hL λL' h=> h2 k L' (.inr h);unfold pot;omega
theorem ku {E:pG}{i:Int}:lM E i (E i)=E:=by
 funext j
 by_cases h:j=i
 ·rw [h,dZ]
 ·rw [dN h]
theorem XC {d:dL}{p:Pkt}(hk:p.aS=Qp (KO d.step))(hid:p.id=d.id)(hl:p.aj=d.aj)(hs:1<=d.step/\d.step<=6):d.fits p=true:=by
 have:d.step=1∨d.step=2∨d.step=3∨d.step=4∨d.step=5∨d.step=6:=by omega
 unfold dL.fits;simp only [hk,hid,hl,decide_true,zco,decide_eq_true_eq];rcases this with h | h | h | h | h | h <;> simp [h,Qp,KO]
structure aii(c:Cfg)(N hm:Int)(E:pG)(r:Row)(v:List Int)(i:Int)(n:Node)(ca:Cache)(d':dL):Prop where
 aj:d'.aj=n.aF.aj
 aS:d'.aS=n.aF.aS
 id:d'.id=n.aF.id
 step:d'.step≠0
 fall:∀p q,¬(d'.step=6/\d'.aS≠3)->Dp d' (.req q)+wt d' n.aF.aj (ca.find n.aF.aj) < Dp n.aF (.ans p)+wt n.aF n.aF.aj (n.aC.find n.aF.aj)
 other:∀L,L≠n.aF.aj->ca.find L=n.aC.find L
 miss:d'.aS=1->d'.step=1∨d'.step=2->ca.find n.aF.aj=none
 next:(¬(d'.step=6/\d'.aS≠3)/\Hold N hm (lM E i (ca.find n.aF.aj)) r v i d' (.req (d'.ask i hm)))∨
  (d'.step=6/\d'.aS≠3/\∃e,ca.find n.aF.aj=some e/\e.data=v/\
   ((n.aF.aS=1/\Hold N hm (lM E i (some e)) r v i d' (.req (d'.ask i hm)))∨
    (n.aF.aS=2/\e.bG=true/\∀e':Ent,e'.back=e.back->e'.fwd=e.fwd->e'.bG=e.bG->Hold N hm (lM E i (some e')) r e'.data i d' (.req (d'.ask i hm)))))
section
variable {c:Cfg}{N hm:Int}{E:pG}{r:Row}{v:List Int}{i:Int}{n:Node}
theorem Pm {ca:Cache}(hl:Lines ca.l){e:Ent}(h0:0<=e.aj)(hf:ca.full e.aj=false):∃u,∀L,(ca.put e).1.find L=if L=e.aj then some { e with used:=u } else ca.find L:=by
 cases h:ca.find e.aj with
 | none=> exact LY hl h0 h hf
 | some x=> exact⟨x.used,λL=> uy hl h0 h L⟩
theorem LZ {d:dL}{me:Int}{ca:Cache}{x:Int}(hx:x=match ca.find d.aj with
   | some own=> if d.next=me then own.fwd else d.next
   | none=> d.next):fZ d me ca=if x≠-1 then(ca,{ d with next:=x,step:=3 }) else((ca.put ⟨-1,-1,d.aj,0,true,d.data⟩).1,{ d with next:=x,step:=6,aW:=2,head:=me,data:=[] }):=by
 unfold fZ;cases hc:ca.find d.aj with
 | none=>
  rw [hc] at hx;simp only at hx;subst hx;rfl
 | some own=>
  rw [hc] at hx;simp only at hx;by_cases h:d.next=me
  ·rw [if_pos h] at hx;simp only [if_pos h];subst hx;rfl
  ·rw [if_neg h] at hx;simp only [if_neg h];subst hx;rfl
theorem L6(hl:Lines n.aC.l)(hi:0<=i/\i < N)(hE:E i=n.aC.find n.aF.aj)(h0:0<=n.aF.aj)(hfull:n.aC.full n.aF.aj=false)(hk2:n.aF.aS=2)(hst:n.aF.step=1∨n.aF.step=3){d1:dL}(k1:d1.aS=2)(k2:d1.aj=n.aF.aj)(k3:d1.id=n.aF.id){R:List Int}(L:aed N E v i R)(hd1:E i≠none->d1.data=v)(hd2:R=[]->d1.data=v)(hn:d1.next=hdI R (-1)):
  aii c N hm E r v i n (fZ d1 i n.aC).1 (fZ d1 i n.aC).2:=by
 obtain⟨x,hx⟩:∃x,x=match E i with
   | some own=> if d1.next=i then own.fwd else d1.next
   | none=> d1.next:=⟨_,rfl⟩
 have hx':=hx;rw [hE,<-k2] at hx';rw [LZ hx'];rcases aee (hm:=hm) (r:=r) hi.1 L hd1 hd2 hn hx k1 with⟨hx1,H⟩ | ⟨hx1,hdv,hall⟩
 ·rw [if_pos hx1];refine⟨k2,k1.trans hk2.symm,k3,(by decide:(3:Int)≠0),λ_ _ _=> pz (k1.trans hk2.symm) k2 (by omega) (by omega) (by rcases hst with h | h <;> rw [h] <;> rfl) (.inl ⟨(by decide:(3:Int)≠6),(by decide:(3:Int)≠0),rfl⟩),λ_ _=> rfl,λh=> absurd (show d1.aS=1 from h) (by omega),.inl ⟨λh=> absurd (show(3:Int)=6 from h.1) (by decide),?_⟩⟩;rw [<-hE,ku];exact H _ rfl k1 rfl rfl
 ·rw [if_neg (by rw [hx1];decide)];obtain⟨u,hu⟩:=Pm (ca:=n.aC) hl (e:=⟨-1,-1,d1.aj,0,true,d1.data⟩) (by rw [k2];exact h0) (by rw [k2];exact hfull);simp only at hu;refine⟨k2,k1.trans hk2.symm,k3,(by decide:(6:Int)≠0),λ_ _ h=> absurd ⟨rfl,(show d1.aS≠3 by omega)⟩ h,λL hL=> by rw [hu,if_neg (by rw [k2];exact hL)],λh=> absurd (show d1.aS=1 from h) (by omega),.inr ⟨rfl,by show d1.aS≠3;omega,⟨-1,-1,d1.aj,u,true,d1.data⟩,by rw [hu,if_pos k2.symm],hdv,.inr ⟨hk2,rfl,λe' a b c'=> ?_⟩⟩⟩;exact Ey hi hall a b c' rfl rfl rfl
theorem TV(hl:Lines n.aC.l)(hi:0<=i/\i < N)(hv:v≠[])(hE:E i=n.aC.find n.aF.aj)(h0:0<=n.aF.aj)(hfull:n.aF.aS≠3->n.aC.full n.aF.aj=false)(hkr:1<=n.aF.aS/\n.aF.aS<=3)(hmiss:n.aF.aS=1->n.aF.step=1∨n.aF.step=2->E i=none){p:Pkt}(H:Hold N hm E r v i n.aF (.ans p)):
  ∃ca d',n.after i p=(ca,d',true)/\aii c N hm E r v i n ca d':=by
 obtain⟨f1,f2,f3,f4,f5,f6⟩:=H.ans;have hfit:=XC f4 f2 f3 (by omega);have one:=hkr;unfold Node.after;have hh:∃q,Out.ans p=q/\Hold N hm E r v i n.aF q:=⟨_,rfl,H⟩
 obtain⟨q,hq,H⟩:=hh;cases H with
 | granted h1 W=>
  cases hq;have hk3:n.aF.aS=1∨n.aF.aS=2∨n.aF.aS=3:=by omega
  rcases hk3 with hk | hk | hk
  ·rw [if_pos hk];unfold iI;rw [if_neg (by rw [hk,hfit];simp),if_pos h1];simp only;have hEn:=hmiss hk (.inl h1);by_cases hs:r.aW≠0
   ·rw [if_pos hs];refine⟨_,_,rfl,rfl,rfl,rfl,(by decide:(2:Int)≠0),λ_ _ _=> pz rfl rfl (by omega) (by omega) (by rw [h1];rfl) (.inl ⟨(by decide:(2:Int)≠6),(by decide:(2:Int)≠0),rfl⟩),λ_ _=> rfl,λ_ _=> by rw [<-hE];exact hEn,.inl ⟨λh=> absurd (show(2:Int)=6 from h.1) (by decide),?_⟩⟩;rw [<-hE,ku];exact Ew (d:={ n.aF with aW:=r.aW,head:=r.head,told:=r.head,data:=r.data,step:=2 }) hk W hs rfl rfl
   ·rw [if_neg hs];obtain⟨u,hu⟩:=Pm (ca:=n.aC) hl (e:=⟨-1,-1,n.aF.aj,0,false,r.data⟩) h0 (hfull (by omega));simp only at hu;have hr0:r.aW=0:=Classical.not_not.1 hs;refine⟨_,_,rfl,rfl,rfl,rfl,(by decide:(6:Int)≠0),λ_ _ h=> absurd ⟨rfl,(show n.aF.aS≠3 by omega)⟩ h,λL hL=> by rw [hu,if_neg hL],λ_ h=> (h.elim (λh=> absurd (show(6:Int)=1 from h) (by decide)) λh=> absurd (show(6:Int)=2 from h) (by decide)),.inr ⟨rfl,by show n.aF.aS≠3;omega,⟨-1,-1,n.aF.aj,u,false,r.data⟩,by rw [hu,if_pos rfl],W.zo (by rw [hr0];decide),.inl ⟨hk,?_⟩⟩⟩;exact Jl hi W hr0 rfl rfl rfl rfl rfl rfl rfl rfl
  ·rw [if_neg (by omega),if_pos hk];unfold jy;rw [if_neg (by rw [hk,hfit];simp),if_pos h1];simp only;refine⟨_,_,rfl,?_⟩;refine L6 hl hi hE h0 (hfull (by omega)) hk (.inl h1) hk rfl rfl (Wf.left (i:=i) W) (λhe=> ?_) (λhl0=> ?_) W.head
   ·simp only [<-hE];cases hei:E i with
    | none=> exact absurd hei he
    | some own=> exact W.data i own hei
   ·simp only [<-hE];rw [W.empty hl0 i];exact W.zo (by rw [W.st0.2 hl0];decide)
  ·rw [if_neg (by omega),if_neg (by omega),if_pos hk];unfold kE;rw [if_neg (by rw [hk,hfit];simp),if_pos h1];simp only;cases hc:n.aC.find n.aF.aj with
   | none=>
    simp only;refine⟨_,_,rfl,rfl,rfl,rfl,(by decide:(6:Int)≠0),λ_ _ _=> pz rfl rfl (by omega) (by omega) (by rw [h1];rfl) (.inr ⟨rfl,hk,hc⟩),λ_ _=> rfl,λh=> absurd (show n.aF.aS=1 from h) (by omega),.inl ⟨λh=> h.2 hk,?_⟩⟩;rw [<-hE,ku];exact Jo W rfl rfl rfl rfl
   | some e=>
    have hei:E i=some e:=hE.trans hc;simp only;by_cases hb:e.back=-1/\e.fwd=-1
    ·rw [if_pos hb];have hdr:=x8 (aj:=n.aF.aj) hl;refine⟨_,_,rfl,rfl,rfl,rfl,(by decide:(6:Int)≠0),λ_ _ _=> pz rfl rfl (by omega) (by omega) (by rw [h1];rfl) (.inr ⟨rfl,hk,by rw [hdr,if_pos rfl]⟩),λL hL=> by rw [hdr,if_neg hL],λh=> absurd (show n.aF.aS=1 from h) (by omega),.inl ⟨λh=> h.2 hk,?_⟩⟩;rw [hdr,if_pos rfl];exact EY W hv hei hb.1 hb.2 rfl rfl rfl rfl
    ·rw [if_neg hb];by_cases hb1:e.back=-1
     ·rw [if_pos hb1];refine⟨_,_,rfl,rfl,rfl,rfl,(by decide:(5:Int)≠0),λ_ _ _=> pz rfl rfl (by omega) (by omega) (by rw [h1];rfl) (.inl ⟨(by decide:(5:Int)≠6),(by decide:(5:Int)≠0),rfl⟩),λ_ _=> rfl,λh=> absurd (show n.aF.aS=1 from h) (by omega),.inl ⟨λh=> h.2 hk,?_⟩⟩;rw [<-hE,ku];exact EZ W hei hb1 (λh=> hb ⟨hb1,h⟩) rfl hk rfl rfl rfl
     ·rw [if_neg hb1];refine⟨_,_,rfl,rfl,rfl,rfl,(by decide:(4:Int)≠0),λ_ _ _=> pz rfl rfl (by omega) (by omega) (by rw [h1];rfl) (.inl ⟨(by decide:(4:Int)≠6),(by decide:(4:Int)≠0),rfl⟩),λ_ _=> rfl,λh=> absurd (show n.aF.aS=1 from h) (by omega),.inl ⟨λh=> h.2 hk,?_⟩⟩;rw [<-hE,ku];exact E8 W hei hb1 rfl hk rfl rfl rfl
 | attached h1 h2 h3 h4 R C M D X F=>
  cases hq;rw [if_pos h2];unfold iI;rw [if_neg (by rw [h2,hfit];simp),if_neg (by omega),if_pos h1];simp only;have hEn:=hmiss h2 (.inr h1);obtain⟨u,hu⟩:=Pm (ca:=n.aC) hl (e:=⟨n.aF.head,-1,n.aF.aj,0,false,v⟩) h0 (hfull (by omega));simp only at hu;refine⟨_,_,rfl,rfl,rfl,rfl,(by decide:(6:Int)≠0),λ_ _ h=> absurd ⟨rfl,(show n.aF.aS≠3 by omega)⟩ h,λL hL=> by rw [hu,if_neg hL],λ_ h=> (h.elim (λh=> absurd (show(6:Int)=1 from h) (by decide)) λh=> absurd (show(6:Int)=2 from h) (by decide)),.inr ⟨rfl,by show n.aF.aS≠3;omega,⟨n.aF.head,-1,n.aF.aj,u,false,v⟩,by rw [hu,if_pos rfl],rfl,.inl ⟨h2,?_⟩⟩⟩;exact Jm hi hEn h3 h4 R C M D X F hv rfl rfl rfl rfl rfl rfl rfl rfl
 | Eu h1 h2 L hcl h3=>
  cases hq;rw [if_neg (by omega),if_pos h2];unfold jy;rw [if_neg (by rw [h2,hfit];simp),if_neg (by omega),if_pos h1];simp only;refine⟨_,_,rfl,?_⟩;refine L6 hl hi hE h0 (hfull (by omega)) h2 (.inr h1) h2 rfl rfl L (λhe=> ?_) (λ_=> ?_) rfl
  ·simp only [<-hE];cases hei:E i with
   | none=> exact absurd hei he
   | some own=> exact h3 he
  ·simp only [<-hE];cases hei:E i with
   | none=> rfl
   | some own=> exact h3 (by rw [hei];simp)
 | wB h1 h2 M h3 C C' h4 h5 h6=>
  cases hq;rw [if_neg (by omega),if_neg (by omega),if_pos h2];unfold kE;rw [if_neg (by rw [h2,hfit];simp),if_neg (by omega),if_pos h1];by_cases hn:n.aF.next=-1
  ·rw [if_pos hn];unfold pq;have hdr:=x8 (aj:=n.aF.aj) hl;have hpost:=(M.rng.mid.2.2.2.2.1.Xy).1 (h5.symm.trans hn);refine⟨_,_,rfl,rfl,rfl,rfl,(by decide:(6:Int)≠0),λ_ _ _=> pz rfl rfl (by omega) (by omega) (by rw [h1];rfl) (.inr ⟨rfl,h2,by rw [hdr,if_pos rfl]⟩),λL hL=> by rw [hdr,if_neg hL],λh=> absurd (show n.aF.aS=1 from h) (by omega),.inl ⟨λh=> h.2 h2,?_⟩⟩;rw [hdr,if_pos rfl];exact Ez M h3 C hpost rfl rfl h6 rfl
  ·rw [if_neg hn];refine⟨_,_,rfl,rfl,rfl,rfl,(by decide:(5:Int)≠0),λ_ _ _=> pz rfl rfl (by omega) (by omega) (by rw [h1];rfl) (.inl ⟨(by decide:(5:Int)≠6),(by decide:(5:Int)≠0),rfl⟩),λ_ _=> rfl,λh=> absurd (show n.aF.aS=1 from h) (by omega),.inl ⟨λh=> h.2 h2,?_⟩⟩;rw [<-hE,ku];exact E9 (d:={ n.aF with step:=5 }) M (λh=> hn (by rw [h5,h];rfl)) C C' rfl h2 h4 h5 h6
 | qY h1 h2 M h3 C C' h4 h5 h6=>
  cases hq;rw [if_neg (by omega),if_neg (by omega),if_pos h2];unfold kE;rw [if_neg (by rw [h2,hfit];simp),if_neg (by omega),if_neg (by omega),if_pos h1];have hdr:=x8 (aj:=n.aF.aj) hl;by_cases hh:n.aF.head=-1
  ·rw [if_pos hh];unfold pq;refine⟨_,_,rfl,rfl,rfl,rfl,(by decide:(6:Int)≠0),λ_ _ _=> pz rfl rfl (by omega) (by omega) (by rw [h1];rfl) (.inr ⟨rfl,h2,by rw [hdr,if_pos rfl]⟩),λL hL=> by rw [hdr,if_neg hL],λh=> absurd (show n.aF.aS=1 from h) (by omega),.inl ⟨λh=> h.2 h2,?_⟩⟩;rw [hdr,if_pos rfl];exact Ae (h0:=n.aF.head) (nx:=n.aF.next) M h3 C C' h4 h5 rfl rfl (by rw [if_pos hh]) rfl
  ·rw [if_neg hh];unfold pq;refine⟨_,_,rfl,rfl,rfl,rfl,(by decide:(6:Int)≠0),λ_ _ _=> pz rfl rfl (by omega) (by omega) (by rw [h1];rfl) (.inr ⟨rfl,h2,by rw [hdr,if_pos rfl]⟩),λL hL=> by rw [hdr,if_neg hL],λh=> absurd (show n.aF.aS=1 from h) (by omega),.inl ⟨λh=> h.2 h2,?_⟩⟩;rw [hdr,if_pos rfl];exact Ae (h0:=n.aF.head) (nx:=n.aF.next) M h3 C C' h4 h5 rfl rfl (by rw [if_neg hh];exact h6) rfl
 | attach _ _ _ _ _=> cases hq
 | EX _ _ _ _ _=> cases hq
 | front _ _ _ _ _ _ _ _=> cases hq
 | behind _ _ _ _ _ _ _ _ _=> cases hq
 | unlock _ _=> cases hq
end
end
end Go.Proofs.YtgplhpgkompkmaaGreat
