/-
  Own work: an interpreter over named blocks, its soundness, and what the functions of this seat compute (part 6 of 11).
  Conditions: those of the statement alone.
-/
import Derived.Test.YthmoogcacpmjiaaGreatXe
set_option linter.all false
set_option linter.unusedSectionVars false
set_option linter.unusedVariables false
set_option linter.unusedSimpArgs false
namespace Go.Proofs.YthmoogcacpmjiaaGreat
noncomputable section
theorem YP(H:aj)(line fwd back:Int)(dirty:Bool){l:List Int}(hl:l.length < 1000000000){x:AV}(hx:jU H x l):cl 204 [I line,I fwd,I back,B dirty,x] H=some (.agg (Ent.mk fwd back line 0 dirty l).av,H):=by
 refine aW rfl rfl (alu _ _ _ _ _ _ _) ?_ (kD (JB _));have e1:=λo=> Nl (H.guard.new o) hl (hx.guard.new o);simp -implicitDefEqProofs only [Nat.reduceAdd,Nat.reduceLeDiff,setAt,xq_,hq_,aeu,e1,anb,ahQ,gV,dM,ahO,ahP,Ent.av]
theorem aoT(H:aj)(e:Ent)(w:Int):cl 73 [.agg e.av,I w] H=some (B (decide (0<=w/\w < e.data.length)),H.new (.blk 0 93 e.av)):=by
 refine aN rfl rfl (ajs _ _ _ _ ?_);have e1:=λH=> (jr H e.data).lnS;by_cases h0:0<=w
 ·simp -implicitDefEqProofs only [Nat.reduceLT,xq_,hq_,Xu,aB,Ent.av,h0,e1]
 ·simp -implicitDefEqProofs only [Nat.reduceLT,xq_,hq_,Xu,aB,Ent.av,h0,false_and]
theorem agw(H:aj)(e:Ent)(w:Int):cl 38 [.agg e.av,I w] H=some (I (e.word w),H):=by
 refine aW rfl rfl (anS _ _ _ _) ?_ dW;have e1:=λH=> aoT H e w;by_cases h0:0<=w/\w < e.data.length
 ·have e2:=λH=> (jr H e.data).ix (k:=.i64) (i:=w) h0.1 h0.2;have e3:=λH=> (jr H e.data).ld (i:=w.toNat) (by omega);have e4:(e.data.map I)[w.toNat]?=some (I (e.word w)):=by
   unfold Ent.word;rw [if_pos h0,zaB,zab (by omega),zax,zab (by omega)];rfl
  rw [e4] at e3;have e5:e.av[5]?=some (dat e.data):=rfl;simp -implicitDefEqProofs only [Nat.reduceLT,xq_,hq_,afG,aB,e1,h0,e2,e3,e5,zae]
 ·have:e.word w=0:=by unfold Ent.word;rw [if_neg h0]
  rw [this];simp -implicitDefEqProofs only [Nat.reduceLT,xq_,hq_,afG,aB,e1,h0,zal]
section
variable {b:Nat}{H:aj}{g:Store}{q:Nat}
theorem SV(G:Good b H g){c:Cache}(h:g q=some (bC c))(hl:c.l.length < 1000000)(hs0:1<=c.sets)(line:Int):cl 168 [.ref q 0 0,I line] H=some (vsl 6 Ent.av (c.mD line),H):=by
 obtain⟨x,hx,cx⟩:=G.guard.seq h (i:=0) rfl;have hs:=cx.is (n:=c.l.length) (by decide) (bf bP c.l);have e2:=hs.lnS;let p:Ent->Bool:=λe=> decide (0<=line) && decide (e.line.tmod c.sets=line.tmod c.sets)
 let F:Nat->List Ent:=λj=> (c.l.take j).filter p
 have hF:∀j,(F j).length<=j:=λj=> zaz (List.length_filter_le _ _) (by rw [zao];omega);have key:∀k j,j+k=c.l.length->∀Hi t,Step H.next H.guard Hi->Own H.next Hi t 6 ((F j).flatMap Ent.av)->(F j=[]->t=zN)->
   ∃t' H',BL cl [.ref q 0 0,I line,t,x,I c.l.length,I j] Hi=some (t',H')/\Own H.next H' t' 6 ((c.mD line).flatMap Ent.av)/\(c.mD line=[]->t'=zN):=by
  intro k
  induction k with
  | zero=>
   intro j hj Hi t s o z;have h1:¬(j:Int) < c.l.length:=by omega
   have:F j=c.mD line:=by
    simp only [F,Cache.mD,p];rw [zas (by omega)]
   rw [this] at o z;refine⟨t,Hi,?_,o,z⟩;rw [RS];simp -implicitDefEqProofs only [xq_,h1]
  | succ k ih=>
   intro j hj Hi t s o z;have h1:(j:Int) < c.l.length:=by omega
   have h6:(j:Int)+1=((j+1:Nat):Int):=by omega
   have h7:=wrap_i64 (a:=((j+1:Nat):Int)) (by omega) (by omega);obtain⟨e,he⟩:∃e,c.l[j]?=some e:=⟨_,zab (by omega)⟩
   have hsi:aG Hi x 6 c.l.length (c.l.flatMap Ent.av):=hs.gK s.next λr _ hr=> s.low r hr
   have s1:=hsi.ix (k:=.i64) (i:=(j:Int)) (by omega) h1;rw [zar] at s1;have s2:=iW bP hsi he;have bi:Hi.base=H.next:=s.base.trans aio
   have ni:H.next<=Hi.next:=s.next
   have hbase:Hi.base<=Hi.next:=by omega
   have Gi:Good b Hi g:=G.guard.ext s.next s.low
   have l1:=(Gi.new (.blk 0 93 e.av)).load h (i:=1) (x:=I c.sets) rfl;have r0:c.sets≠0:=by omega
   have hFs:F (j+1)=F j++if p e=true then [e] else []:=by
    simp only [F,zb6,he,Option.toList_some,zcg]
    congr 1
    cases hp:p e <;> simp [hp]
   rw [RS];by_cases hc:0<=line/\e.line.tmod c.sets=line.tmod c.sets
   ·have hp:p e=true:=by simp only [p,hc.1,hc.2,decide_true,zb8]
    rw [hp,if_pos rfl] at hFs;have hm:=hF j;obtain⟨t1,H2,a1,a2,a3⟩:=((o.new (.blk 0 93 e.av)).new (.blk 0 93 e.av)).step (e:=93) (by_:=64) (n:=(F j).length) (by simp only [nNew];omega) (by simp only [bNew];omega) (by decide) (bf bP _) (jv (ex:=true) (n:=1) (m:=6) (l:=e.av) rfl) (jK e) (by unfold most;omega) (by unfold most;omega);have a2':Own H.next H2 t1 6 ((F (j+1)).flatMap Ent.av):=by rw [hFs,zbB];simpa using a2
    obtain⟨t',H',r1,r2⟩:=ih (j+1) (by omega) H2 t1 (((s.trans (Step.new _ ni)).trans (Step.new _ (by simp only [nNew];omega))).trans a3) a2' (λhz=> by rw [hFs] at hz;simp at hz);refine⟨t',H',?_,r2⟩;simp only [nNew] at a1;have lf:e.av[2]?=some (I e.line):=rfl;simp -implicitDefEqProofs only [Nat.reduceAdd,Nat.reduceLeDiff,setAt,xq_,hq_,h1,s1,s2,hbase,hc,lf,l1,qZ r0,yc,acz,zbd,jm (m:=6) (z:=[zI,zI,zI,zI,zB,zN]) (v:=.agg e.av) rfl rfl (jK e),a1,aZ,h6,h7];exact r1
   ·have hp:p e=false:=by
     simp only [p];by_cases h0:0<=line
     ·have:¬e.line.tmod c.sets=line.tmod c.sets:=λh=> hc ⟨h0,h⟩;simp [this]
     ·simp [h0]
    rw [hp,if_neg (by simp),zbh] at hFs;obtain⟨t',H',r1,r2⟩:=ih (j+1) (by omega) (Hi.new (.blk 0 93 e.av)) t (s.trans (Step.new _ ni)) (by rw [hFs];exact o.new _) (by rw [hFs];exact z);refine⟨t',H',?_,r2⟩;have lf:e.av[2]?=some (I e.line):=rfl;by_cases h0:0<=line
    ·have hne:¬e.line.tmod c.sets=line.tmod c.sets:=λh=> hc ⟨h0,h⟩;simp -implicitDefEqProofs only [Nat.reduceAdd,setAt,xq_,hq_,h1,s1,s2,hbase,h0,hne,lf,l1,qZ r0,yc,aZ,h6,h7,r1]
    ·simp -implicitDefEqProofs only [Nat.reduceAdd,setAt,xq_,hq_,h1,s1,s2,hbase,h0,yc,aZ,h6,h7,r1]
 obtain⟨t',H',r1,r2,r3⟩:=key c.l.length 0 (by omega) H.guard zN (Step.refl _ _) (.inl ⟨rfl,rfl⟩) (λ_=> rfl);refine eu rfl rfl (akX _ _ _ _ (r:=(t',H')) ?_) ?_
 ·simp -implicitDefEqProofs only [xq_,aec,hx,e2];exact r1
 ·by_cases hz:c.mD line=[]
  ·rw [r3 hz,hz,dQ];exact fJ
  ·rw [Bh hz];refine zG r2 (by decide) (bf bP _) (λy hy=> ?_) (λe=> hz (zan e));obtain⟨a,_,ha⟩:=za5.1 hy;exact JB (d:=6) a y ha _ _
theorem Ns(G:Good b H g){c:Cache}(h:g q=some (bC c))(hl:c.l.length < 1000000)(hs0:1<=c.sets)(line:Int):cl 117 [.ref q 0 0,I line] H=some (B (c.full line),H):=by
 refine aW rfl rfl (akf _ _ _ _) ?_ dW;have e1:=Ey G.guard h hl line;have e2:=SV G.guard.guard h hl hs0 line;have e3:=(Dz bP H.guard (c.mD line)).lnS;have e4:=G.guard.load h (i:=2) (x:=I c.ways) rfl;have hf:(c.find line).isNone=(c.at_ line).isNone:=by
  rw [show c.find line=(c.at_ line).bind λi=> c.l[i]? from(pq c.l).symm];cases ha:c.at_ line with
  | none=> rfl
  | some i=>
   have hi:i < c.l.length:=zby.1 ha |>.1
   simp [zab hi]
 cases ha:c.at_ line with
 | none=>
  rw [ha] at e1 hf;have hn:Cc (none:Option Nat)=-1:=rfl;rw [hn] at e1;simp -implicitDefEqProofs only [Int.reduceLT,Int.reduceNeg,xq_,XI,e1,e2,e3,e4,Cache.full,hf,Option.isNone_none,zaO]
 | some i=>
  rw [ha] at e1 hf;have hn:Cc (some i)=(i:Int):=rfl;rw [hn] at e1;have h0:¬(i:Int) < 0:=by omega
  simp -implicitDefEqProofs only [xq_,XI,e1,h0,Cache.full,hf,Option.isNone_some,zaQ]
end
theorem abA(H:aj)(a e:Ent)(h:In64 (a.used - e.used)):cl 170 [.agg a.av,.agg e.av] H=some (I (a.used - e.used),H):=by
 refine aW rfl rfl (akZ _ _ _ _) ?_ dW;have w:=wrap_i64 h.1 h.2;simp -implicitDefEqProofs only [Nat.reduceLT,xq_,hq_,aef,aB,Ent.av,iT,w]
abbrev aeK(m:Ent)(l:List Ent):Ent:=l.foldl (λm x=> if x.used < m.used then x else m) m
theorem UL(H:aj)(hb:H.base<=H.next){a:Ent}{l:List Ent}(hl:l.length < 1000000)(hu:∀e∈a::l,0<=e.used/\e.used < 1000000000):
  ∃H',cl 169 [vsl 6 Ent.av (a::l),.fn (.func 170) [] []] H=some (.agg (aeK a l).av,H'):=by
 obtain⟨L,hL⟩:∃L,L=a::l:=⟨_,rfl⟩
 have hs:=λH=> Dz bP H L;have hll:L.length=l.length+1:=by rw [hL];rfl
 rw [<-hL] at hu ⊢;let HH:Ent->aj:=λm=> (H.new (.blk 0 93 [zI,zI,zI,zI,zB,zN])).new (.blk 0 93 m.av)
 have key:∀k j,j+k=L.length->∀m,m∈L->
   ∃H',BM cl [vsl 6 Ent.av L,.fn (.func 170) [] [],.ref H.next 0 0,.ref (H.next+1) 0 0,I j] (HH m)=some (.agg (aeK m (L.drop j)).av,H'):=by
  intro k
  induction k with
  | zero=>
   intro j hj m hm;have h1:¬(j:Int) < L.length:=by omega
   have s0:=(hs (HH m)).lnS;have hd:L.drop j=[]:=zaU (by omega);refine⟨(H.new (.blk 0 93 m.av)).new (.blk 0 93 m.av),?_⟩;rw [RU,hd];simp only [HH] at s0 ⊢;simp -implicitDefEqProofs only [Nat.reduceAdd,setAt,xq_,hq_,s0,h1,hb,aeK,List.foldl_nil]
  | succ k ih=>
   intro j hj m hm;have h1:(j:Int) < L.length:=by omega
   have h6:(j:Int)+1=((j+1:Nat):Int):=by omega
   have h7:=wrap_i64 (a:=((j+1:Nat):Int)) (by omega) (by omega);obtain⟨e,he⟩:∃e,L[j]?=some e:=⟨_,zab (by omega)⟩
   have s0:=(hs (HH m)).lnS;have s1:=(hs (HH m)).ix (k:=.i64) (i:=(j:Int)) (by omega) h1;rw [zar] at s1;have s2:=iW bP (hs (HH m)) he;have u1:=hu _ (zau he);have u2:=hu _ hm;have c0:qJ Tryz.prog cl (.fn (.func 170) [] []) [.agg e.av,.agg m.av] (HH m)=some (I (e.used - m.used),HH m):=by
    rw [xE (by kernel_rfl)];exact abA _ e m ⟨by omega,by omega⟩
   have hd:L.drop j=e::L.drop (j+1):=by
    rw [zbn (by omega)];rw [zab (by omega)] at he;rw [za3 he]
   rw [RU,hd];by_cases hc:e.used < m.used
   ·have hc':e.used - m.used < 0:=by omega
    obtain⟨H',r1⟩:=ih (j+1) (by omega) e (zau he);refine⟨H',?_⟩;simp only [HH] at s0 s1 s2 c0 r1 ⊢;simp -implicitDefEqProofs only [Nat.reduceAdd,setAt,xq_,hq_,s0,h1,s1,s2,c0,hc',hb,BN,aZ,h6,h7,aeK,zbL,hc];exact r1
   ·have hc':¬e.used - m.used < 0:=by omega
    obtain⟨H',r1⟩:=ih (j+1) (by omega) m hm;refine⟨H',?_⟩;simp only [HH] at s0 s1 s2 c0 r1 ⊢;simp -implicitDefEqProofs only [Nat.reduceAdd,setAt,xq_,hq_,s0,h1,s1,s2,c0,hc',hb,BN,aZ,h6,h7,aeK,zbL,hc];exact r1
 obtain⟨H',r1⟩:=key l.length 1 (by omega) a (by rw [hL];simp);refine⟨H',aN rfl rfl (akY _ _ _ _ ?_)⟩;let H1:=H.new (.blk 0 93 [zI,zI,zI,zI,zB,zN]);have s0:=(hs H1).lnS;have h1:¬(L.length:Int) < 1:=by omega
 have s1:=(hs H1).ix (k:=.i64) (i:=(0:Int)) (by omega) (by omega);have s2:=iW bP (hs H1) (i:=0) (a:=a) (by rw [hL];rfl);rw [show((0:Int).toNat)=0 from rfl] at s1;have d1:L.drop 1=l:=by rw [hL];rfl
 rw [d1] at r1;simp only [HH] at r1;simp only [H1] at s0 s1 s2;have j1:((1:Nat):Int)=1:=rfl;rw [j1] at r1;simp -implicitDefEqProofs only [Nat.reduceAdd,setAt,xq_,hq_,aee,Jm,s0,h1,s1,s2,hb];exact r1
section
variable {b:Nat}{H:aj}{g:Store}{q:Nat}
theorem agx(c:Cache)(line:Int):∀e∈c.mD line,e∈c.l:=λe he=> (zbq.1 he).1
theorem Qb(G:Good b H g){c:Cache}(h:g q=some (bC c))(hl:c.l.length < 1000000)(hs0:1<=c.sets)(hu:∀e∈c.l,0<=e.used/\e.used < 1000000000)(line:Int):
  cl 118 [.ref q 0 0,I line] H=some (.tup [I ((c.lW line).getD 0),B (c.lW line).isSome],H):=by
 refine aW rfl rfl (akg _ _ _ _) ?_ (rD λx hx=> by
  simp only [zam,zaI,or_false] at hx;rcases hx with rfl | rfl <;> exact dW)
 have e2:=SV G.guard h hl hs0 line;have e3:=(Dz bP H.guard (c.mD line)).lnS;have hlen:(c.mD line).length<=c.l.length:=List.length_filter_le _ _;cases hz:c.mD line with
 | nil=>
  rw [hz] at e2 e3;have hv:c.lW line=none:=by simp [Cache.lW,hz,lD]
  simp -implicitDefEqProofs only [xq_,XJ,e2,e3,hv,zat,Int.ofNat_zero,za0,zaL]
 | cons a l=>
  rw [hz] at e2 e3 hlen;have hv:c.lW line=some (aeK a l).line:=by simp [Cache.lW,hz,lD]
  obtain⟨H',e4⟩:=UL H.guard (zac _) (a:=a) (l:=l) (by simp only [zak] at hlen;omega) (λe he=> hu e (agx c line e (by rw [hz];exact he)));have h1:¬((a::l).length:Int)=0:=by simp only [zak];omega
  have lf:(aeK a l).av[2]?=some (I (aeK a l).line):=rfl;simp -implicitDefEqProofs only [xq_,XJ,e2,e3,h1,e4,hv,lf,zay,zaM]
end
theorem Gz {α:Type}{enc:α->List AV}{m:Nat}(he:∀a,(enc a).length=m){a':α}{o:Nat}{vs:List AV}(ho:o+vs.length<=m):∀(l:List α) (i:Nat) (a:α),l[i]?=some a->setAt (enc a) o vs=enc a'->setAt (l.flatMap enc) (i*m+o) vs=(l.set i a').flatMap enc
 | [],i,a,h,_=> by simp at h
 | x::l,0,a,h,hv=> by
  simp only [za1,zaa] at h;subst h;have hl:=he x;rw [List.set_cons_zero,zaH,zaH,<-hv];unfold setAt;rw [zba,za7,zbO (by omega),List.drop_append_of_le_length (by omega)];simp only [List.append_assoc]
 | x::l,i+1,a,h,hv=> by
  have hl:=he x;have ih:=Gz he ho l i a (by simpa using h) hv;rw [List.set_cons_succ,zaH,zaH,<-ih];unfold setAt;have e1:(i+1)*m+o=(enc x).length+(i*m+o):=by rw [hl,zbs,zbd];omega
  have e2:(i+1)*m+o+vs.length=(enc x).length+(i*m+o+vs.length):=by rw [hl,zbs,zbd];omega
  rw [e2,e1,List.take_length_add_append,List.drop_length_add_append,List.append_assoc]
section
variable {b:Nat}{H:aj}{g:Store}{q:Nat}
theorem Nu(G:Good b H g)(hb:H.base<=b){c:Cache}(h:g q=some (bC c)){x:AV}(cx:Cur b H q 0 x 6 (c.l.flatMap Ent.av)){i:Nat}{e e':Ent}(hi:c.l[i]?=some e):
  ∃r gg off,cZ x i=.ref r gg off/\∀(w o:Nat) (v:AV),v.cells.length=w->v.cells.all AV.aH=true->o+w<=6->setAt e.av o v.cells=e'.av->
   ∃H',st w (.ref r gg (off+o)) v H=some (aO,H')/\Good b H' (upd g q (bC { c with l:=c.l.set i e' }))/\Step b H H'/\H'.next=H.next:=by
 obtain⟨r,gg,off,e1,e2⟩:=G.elem hb h (i:=0) rfl (by decide) (bf bP c.l) cx (j:=i) (zaf.1 hi).1;refine⟨r,gg,off,e1,λw o v h1 h2 h3 h4=> ?_⟩;obtain⟨H',s1,s2,s3⟩:=e2 w o v h1 h2 h3;refine⟨H',s1,?_,s3⟩;have:=Gz bP (o:=o) (vs:=v.cells) (by omega) c.l i e hi h4;rw [this] at s2;exact s2
theorem UM(G:Good b H g)(hb:H.base<=b){c:Cache}(h:g q=some (bC c))(hl:c.l.length < 1000000)(hk:0<=c.clock/\c.clock < 1000000000)(line:Int):
  ∃H',cl 116 [.ref q 0 0,I line] H=some (B (c.at_ line).isSome,H')/\Good b H' (upd g q (bC (c.touch line)))/\Step b H H':=by
 refine jw rfl rfl (akd _ _ _ _) ?_;have e1:=Ey G h hl line;cases ha:c.at_ line with
 | none=>
  rw [ha] at e1;have hn:Cc (none:Option Nat)=-1:=rfl;rw [hn] at e1;refine⟨H,?_,by rw [show c.touch line=c by simp [Cache.touch,ha],dO h];exact G,Step.refl _ _⟩;simp -implicitDefEqProofs only [Int.reduceLT,Int.reduceNeg,xq_,XH,e1,zaL]
 | some i=>
  rw [ha] at e1;have hn:Cc (some i)=(i:Int):=rfl;rw [hn] at e1;have h0:¬(i:Int) < 0:=by omega
  have hi:i < c.l.length:=zby.1 ha |>.1
  obtain⟨e,he⟩:∃e,c.l[i]?=some e:=⟨_,zab hi⟩
  have l1:=G.load h (i:=3) (x:=I c.clock) rfl;have w1:=wrap_i64 (a:=c.clock+1) (by omega) (by omega);obtain⟨H1,s1,G1,s3,s4⟩:=G.store hb h (i:=3) (v:=I (c.clock+1)) (by simp [bC]) bJ;have h1:upd g q ((bC c).set 3 (.av (I (c.clock+1)))) q=some (bC { c with clock:=c.clock+1 }):=upd_same;have l2:=G1.load h1 (i:=3) (x:=I (c.clock+1)) rfl;obtain⟨x,hx,cx⟩:=G1.seq h1 (i:=0) rfl;have hs:=cx.is (n:=c.l.length) (by decide) (bf bP c.l);have e3:=hs.ix (k:=.i64) (i:=(i:Int)) (by omega) (by omega);rw [zar] at e3;obtain⟨r,gg,off,p1,p2⟩:=Nu G1 (by rw [s3.base];exact hb) h1 cx (e':={ e with used:=c.clock+1 }) he;obtain⟨H2,t1,t2,t3,t4⟩:=p2 1 3 (I (c.clock+1)) rfl rfl (by decide) rfl;rw [p1] at e3;refine⟨H2,?_,?_,s3.trans t3⟩
  ·simp -implicitDefEqProofs only [xq_,XH,e1,h0,l1,aZ,w1,s1,hx,l2,e3,t1,zaM]
  ·rw [mG] at t2;have:c.touch line={ c with l:=c.l.set i { e with used:=c.clock+1 },clock:=c.clock+1 }:=by
    simp only [Cache.touch,ha];rw [zax,he];rfl
   rw [this];exact t2
theorem agy {i n:Nat}{x:AV}{l:List AV}(c:Cur b H q i x 6 l)(hb:H.base<=b)(hl:l.length=n*6)(hn:n < 1000000000){j:Nat}(hj:j < n):
  ∃x' H',cl 211 [x,I j,I (j+1)] H=some (x',H')/\Fit H H' x x' 6 (l.take (j*6)++l.drop ((j+1)*6))/\H'.next=H.next/\H'.base=H.base/\∀r,nameOf x≠some r->H'.get r=H.get r:=by
 obtain⟨y,x1,x2,x3,H1,x4,H2,e1,e2,e3,e4,e5,e6,e7,f,n1,b1,k1⟩:=Q7 c hb (by decide) hl hn hj (z:=[zI,zI,zI,zI,zB,zN]) rfl rfl (e:=93) (by_:=64) (by decide);have e0:=(c.is (by decide) hl).lnS;have hne:((j:Int)=j+1)=False:=eq_false (by omega);refine⟨x3,H2,aN rfl rfl (alB _ _ _ _ _ ?_),f,n1,b1,k1⟩;simp -implicitDefEqProofs only [xq_,aex,e0,e1,e2,e3,e4,e5,e6,e7,hne]
theorem YQ(G:Good b H g)(hb:H.base<=b){c:Cache}(h:g q=some (bC c))(hl:c.l.length < 1000000){j:Nat}(hj:j < c.l.length):
  ∃x x' H1 H2,ld (.ref q 0 0) H=some (x,H)/\cl 211 [x,I j,I (j+1)] H=some (x',H1)/\st 1 (.ref q 0 0) x' H1=some (aO,H2)/\Good b H2 (upd g q (bC { c with l:=c.l.eraseIdx j }))/\Step b H H2:=by
 obtain⟨x,hx,cx⟩:=G.seq h (i:=0) rfl;obtain⟨x',H1,d1,d2,d3,d4,d5⟩:=agy cx hb (bf bP c.l) (by omega) hj;rw [Gt bP] at d2;obtain⟨H2,s1,s2,s3,s4⟩:=G.seat h (i:=0) rfl cx (by omega) (by omega) (λr _ hr=> d5 r hr) d2;exact⟨x,x',H1,H2,hx,d1,s1,s2,Step.trans ⟨d4,by omega,λr hr=> d5 r (cx.low hr)⟩ s3⟩
theorem EC(G:Good b H g)(hb:H.base<=b){c:Cache}(h:g q=some (bC c))(hl:c.l.length < 1000000)(hd:∀e∈c.l,e.data.length < 1000000000)(line:Int):
  ∃H',cl 200 [.ref q 0 0,I line] H=some (mg (c.find line),H')/\Good b H' (upd g q (bC (c.drop line)))/\Step b H H':=by
 have hq:=G.lt h;have G1:=G.newObj (ty:=93) (xs:=[zI,zI,zI,zI,zB,zN]) rfl;have h1:upd g H.next ([zI,zI,zI,zI,zB,zN].map .av) q=some (bC c):=by rw [upd_ne (by omega)];exact h
 have e1:=oq G1 h1 hl hd line;have hb0:H.base<=H.next:=zaz hb G.1
 refine jw rfl rfl (alr _ _ _ _) ?_;have hf:c.find line=(c.at_ line).bind λi=> c.l[i]?:=(pq c.l).symm;cases ha:c.at_ line with
 | none=>
  rw [ha] at hf;have hf:c.find line=none:=hf;rw [hf] at e1;simp only [mg,za0,zaL,rU] at e1;have hdr:c.drop line=c:=by simp [Cache.drop,ha]
  simp -implicitDefEqProofs only [Nat.reduceAdd,setAt,xq_,hq_,zaa,zad,exists_eq_left',X7,e1,BZ,mg,hf,za0,zaL,rU,hb0];rw [hdr,dO h];exact⟨(G.new _).new _,(Step.new _ G.1).trans (Step.new _ (G.new _).1)⟩
 | some i=>
  have hi:i < c.l.length:=zby.1 ha |>.1
  obtain⟨e,he⟩:∃e,c.l[i]?=some e:=⟨_,zab hi⟩
  rw [ha] at hf;have hf:c.find line=some e:=by rw [hf];exact he
  rw [hf] at e1;simp only [mg,zay,zaM] at e1;have G2:=G1.newObj (ty:=93) (xs:=e.av) (jK _);have h2:upd (upd g H.next ([zI,zI,zI,zI,zB,zN].map .av)) (H.next+1) (e.av.map .av) q=some (bC c):=by rw [upd_ne (by omega)];exact h1
  have e2:=Ey G2 h2 hl line;have hn:Cc (some i)=(i:Int):=rfl;rw [ha,hn] at e2;obtain⟨x,x',K1,K2,s1,s2,s3,s4,s5⟩:=YQ G2 (by rw [bNew,bNew];omega) h2 hl hi;have G3:Good b K2 _:=s4;let gz:=upd (upd (upd g H.next ([zI,zI,zI,zI,zB,zN].map .av)) (H.next+1) (e.av.map .av)) q (bC { c with l:=c.l.eraseIdx i });have q2:gz (H.next+1)=some (e.av.map .av):=by simp only [gz];rw [upd_ne (by omega),upd_same]
  have q1:gz H.next=some ([zI,zI,zI,zI,zB,zN].map .av):=by simp only [gz];rw [upd_ne (by omega),upd_ne (by omega),upd_same]
  have l2:=G3.loads q2 (i:=0) (n:=6) (xs:=e.av) rfl rfl (by decide);obtain⟨K3,t1,t2,t3,t4⟩:=G3.stores (by rw [s5.base,bNew,bNew];exact hb) q1 (i:=0) (n:=6) (vs:=e.av) (by decide) rfl (jK _);have l3:=t2.loads upd_same (i:=0) (n:=6) (xs:=e.av) rfl rfl (by decide);have w1:=wrap_i64 (a:=(i:Int)+1) (by omega) (by omega);have hdr:c.drop line={ c with l:=c.l.eraseIdx i }:=by simp [Cache.drop,ha]
  simp -implicitDefEqProofs only [Nat.reduceAdd,setAt,xq_,hq_,zaa,zad,exists_eq_left',X7,e1,BZ,mg,hf,zay,zaM,hb0,e2,aZ,w1,s1,s2,s3,l2,t1,l3,hdr];have n1:g H.next=none:=G.isNone (zac _)
  have n2:g (H.next+1)=none:=G.isNone (by omega);exact⟨t2.sub (((((pO.refl g).more n1 _).more n2 _).both q _).more (xF n1 (by omega)) _),(((Step.new _ G.1).trans (Step.new _ (G.new _).1)).trans s5).trans t3⟩
end
section
variable {b:Nat}{H:aj}{g:Store}{q:Nat}
theorem SX(G:Good b H g)(hb:H.base<=b){c:Cache}(h:g q=some (bC c))(hl:c.l.length < 1000000)(hs0:1<=c.sets)(hk:0<=c.clock/\c.clock < 1000000000)(e:Ent){x:AV}(hel:e.data.length < 1000000000)(hx:jU H x e.data):
  ∃H',cl 157 [.ref q 0 0,.agg (e.avx x)] H=some (I (c.put e).2,H')/\Good b H' (upd g q (bC (c.put e).1))/\Step b H H':=by
 have hq:=G.lt h;have hb0:H.base<=H.next:=zaz hb G.1
 have ax:=aby (p:=e) hx.one;have e0:=SN (H.new (.blk 0 93 (e.avx x))) e hel (hx.new _);have ll:(e.avx x).length=6:=rfl;have lt:(e.avx x).take 6=e.avx x:=rfl;have l6:(e.avx x).drop 6=[]:=rfl;let H1:=H.new (.blk 0 93 e.av);have G1:Good b H1 g:=G.new _;have lf:e.av[2]?=some (I e.line):=rfl;refine jw rfl rfl (akG _ _ _ _) ?_;by_cases hneg:e.line < 0
 ·have hp:c.put e=(c,1):=by simp only [Cache.put];rw [if_pos hneg]
  rw [hp];refine⟨H1,?_,by rw [dO h];exact G1,Step.new _ G.1⟩;simp -implicitDefEqProofs only [Nat.reduceLT,setAt,xq_,hq_,L9,aB ax,ll,lt,l6,e0,hb0,lf,hneg];rfl
 ·have e1:=Ey G1 h hl e.line;cases ha:c.at_ e.line with
  | some i=>
   rw [ha] at e1;have hn:Cc (some i)=(i:Int):=rfl;rw [hn] at e1;have h0:(0:Int)<=i:=by omega
   have hi:i < c.l.length:=zby.1 ha |>.1
   obtain⟨o,ho⟩:∃o,c.l[i]?=some o:=⟨_,zab hi⟩
   obtain⟨y,hy0,cy⟩:=G.seq h (i:=0) rfl;have c1:=cy.new (.blk 0 93 e.av);have y1:=c1.load;have hs:=c1.is (n:=c.l.length) (by decide) (bf bP c.l);have e3:=hs.ix (k:=.i64) (i:=(i:Int)) (by omega) (by omega);rw [zar] at e3;have e4:=hs.aif (i:=i) (o:=3) hi (by decide);rw [Es bP c.l i o ho (by decide)] at e4;let e':Ent:={ e with used:=o.used }
   let H2:=H.new (.blk 0 93 e'.av);have G2:Good b H2 g:=G.new _;have c2:=cy.new (.blk 0 93 e'.av);have y2:=c2.load;have hs2:=c2.is (n:=c.l.length) (by decide) (bf bP c.l);have e5:=hs2.ix (k:=.i64) (i:=(i:Int)) (by omega) (by omega);rw [zar] at e5;obtain⟨r,gg,off,p1,p2⟩:=Nu G2 hb h c2 (e':=e') ho;obtain⟨H3,t1,t2,t3,t4⟩:=p2 6 0 (.agg e'.av) rfl (jK e') (by decide) (by simp only [dF];rfl);rw [p1] at e3 e4 e5;rw [oM] at e4;have ou:o.av[3]?=some (I o.used):=rfl;simp only [zaV,ou,zah] at e4;rw [zbf] at t1;have hp:c.put e=({ c with l:=c.l.set i e' },0):=by
    simp only [Cache.put];rw [if_neg hneg,ha];simp only [e',zax,ho,zay]
   rw [hp];refine⟨H3,?_,t2,(Step.new _ G.1).trans t3⟩;simp only [H1,Ent.av] at e1 y1 e3 e4;simp only [H2,e',Ent.av] at y2 e5 t1;simp -implicitDefEqProofs only [Nat.reduceLT,Nat.reduceAdd,setAt,xq_,hq_,L9,aB ax,ll,lt,l6,e0,hb0,hneg,e1,h0,y1,e3,e4,Ent.av,y2,e5,t1]
  | none=>
   rw [ha] at e1;have hn:Cc (none:Option Nat)=-1:=rfl;rw [hn] at e1;have e2:=Ns G1 h hl hs0 e.line;simp only [H1] at e1 e2;cases hf:c.full e.line with
   | true=>
    have hp:c.put e=(c,5):=by simp only [Cache.put];rw [if_neg hneg,ha];simp only [hf,if_true]
    rw [hp];rw [hf] at e2;refine⟨H1,?_,by rw [dO h];exact G1,Step.new _ G.1⟩;simp -implicitDefEqProofs only [Nat.reduceLT,Int.reduceLE,Int.reduceNeg,setAt,xq_,hq_,L9,aB ax,ll,lt,l6,e0,hb0,lf,hneg,e1,e2];rfl
   | false=>
    rw [hf] at e2;let e':Ent:={ e with used:=c.clock+1 }
    have hp:c.put e=({ c with l:=c.l++[e'],clock:=c.clock+1 },0):=by simp only [Cache.put];rw [if_neg hneg,ha];simp only [hf,zai,if_false];rfl
    rw [hp];have F1:=G.newObj (ty:=93) (xs:=e.av) (jK e);have f1:upd g H.next (e.av.map .av) q=some (bC c):=by rw [upd_ne (by omega)];exact h
    have l1:=F1.load f1 (i:=3) (x:=I c.clock) rfl;have w1:=wrap_i64 (a:=c.clock+1) (by omega) (by omega);obtain⟨H2,s1,F2,s3,s4⟩:=F1.store hb f1 (i:=3) (v:=I (c.clock+1)) (by simp [bC]) bJ;have f2:upd (upd g H.next (e.av.map .av)) q ((bC c).set 3 (.av (I (c.clock+1)))) q=some (bC { c with clock:=c.clock+1 }):=upd_same;have l2:=F2.load f2 (i:=3) (x:=I (c.clock+1)) rfl;have f3:upd (upd g H.next (e.av.map .av)) q ((bC c).set 3 (.av (I (c.clock+1)))) H.next=some (e.av.map .av):=by rw [upd_ne (by omega),upd_same]
    obtain⟨H3,t1,F3,t3,t4⟩:=F2.store (by rw [s3.base];exact hb) f3 (i:=3) (v:=I (c.clock+1)) (by simp [Ent.av]) bJ;have f4:upd (upd (upd g H.next (e.av.map .av)) q ((bC c).set 3 (.av (I (c.clock+1))))) H.next ((e.av.map .av).set 3 (.av (I (c.clock+1)))) q=some (bC { c with clock:=c.clock+1 }):=by rw [upd_ne (by omega)];exact f2
    have l4:=F3.loads upd_same (i:=0) (n:=6) (xs:=e'.av) rfl rfl (by decide);obtain⟨y,hy,cy⟩:=F3.seq f4 (i:=0) rfl;obtain⟨x',K1,K2,a1,a2,a3,a4⟩:=(F3.new (.blk 0 93 e'.av)).append (e:=93) (by_:=64) (n:=c.l.length) (by rw [bNew,t3.base,s3.base];exact hb) f4 (i:=0) rfl (by decide) (bf bP c.l) (cy.new _) (jv (ex:=true) (n:=1) (m:=6) (l:=e'.av) rfl) (jK e') (by unfold most;omega) (by unfold most;omega);refine⟨K2,?_,?_,(((Step.new _ G.1).trans s3).trans t3).trans ((Step.new _ F3.1).trans a4)⟩
    ·simp -implicitDefEqProofs only [Nat.reduceLT,Int.reduceLE,Int.reduceNeg,Nat.reduceLeDiff,setAt,xq_,hq_,L9,aB ax,ll,lt,l6,e0,hb0,lf,hneg,e1,e2,l1,aZ,w1,s1,l2,t1,hy,l4,acz,zbd,jm (m:=6) (z:=[zI,zI,zI,zI,zB,zN]) (v:=.agg e'.av) rfl rfl (jK e'),a1,a2]
    ·refine a3.sub λq' cs hq'=> ?_;have n1:g H.next=none:=G.isNone (zac _)
     unfold upd at hq' ⊢;by_cases e3:q'=q
     ·rw [if_pos e3] at hq' ⊢;cases hq';simp [bC]
     ·rw [if_neg e3] at hq' ⊢;have:q'≠H.next:=λe4=> by rw [e4,n1] at hq';cases hq'
      rw [if_neg this,if_neg e3,if_neg this];exact hq'
end
theorem Nv:∀(es:List (Int × AV)) (n:Int) (v:AV),G9 es n v=mM es n v
 | [],_,_=> rfl
 | (k,w)::es,n,v=> by
  simp only [G9,mM];split
  ·rfl
  ·rw [Nv es n v]
theorem JF {α:Type}:∀{es:List (Int × α)} {n:Int} {v:α} {j:Nat} {n':Int} {w:α},(es.map (·.1)).Nodup->(mM es n v)[j]?=some (n',w)->(n'=n/\w=v)∨(n'≠n/\es[j]?=some (n',w))
 | [],n,v,j,n',w,_,h=> by
  simp only [mM] at h;cases j with
  | zero=> simp only [za1,zaa,zad] at h;exact .inl ⟨h.1.symm,h.2.symm⟩
  | succ j=> simp at h
 | (k0,v0)::es,n,v,j,n',w,hn,h=> by
  simp only [zaC,List.nodup_cons] at hn;simp only [mM] at h;split at h
  ·rename_i e;cases j with
   | zero=> simp only [za1,zaa,zad] at h;exact .inl ⟨h.1.symm,h.2.symm⟩
   | succ j=>
    simp only [zbG] at h;refine .inr ⟨λe'=> hn.1 ?_,by simpa using h⟩;rw [e,<-e'];exact zaN.2 ⟨_,zau h,rfl⟩
  ·rename_i e;cases j with
   | zero=>
    simp only [za1,zaa,zad] at h;refine .inr ⟨λe'=> e (by rw [h.1,e']),by simp [h.1,h.2]⟩
   | succ j=>
    simp only [zbG] at h;rcases JF hn.2 h with h' | ⟨h1,h2⟩
    ·exact .inl h'
    ·exact .inr ⟨h1,by simpa using h2⟩
theorem GH {α β:Type}:∀{es:List (Int × α)} {az:List (Int × β)} {n:Int} {v:α} {w:β},az.map (·.1)=es.map (·.1)->(mM az n w).map (·.1)=(mM es n v).map (·.1)
 | [],[],_,_,_,_=> rfl
 | [],_::_,_,_,_,h=> by simp at h
 | _::_,[],_,_,_,h=> by simp at h
 | (k,v0)::es,(k',w0)::az,n,v,w,h=> by
  simp only [zaC,zbW] at h;obtain⟨rfl,h⟩:=h;simp only [mM];split
  ·simp [h]
  ·simp only [zaC,zbW,true_and];exact GH h
section
variable {b:Nat}{H:aj}{g:Store}{q:Nat}{cs:List Cell}
theorem Good.JG(G:Good b H g)(h:g q=some cs){i m:Nat}{k:IntKind}{es:List (Int × List AV)}(hi:cs[i]?=some (.maps k m es))(hnd:(es.map (·.1)).Nodup)(n:Int):
  ∃r x,ld (.ref q 0 i) H=some (.mp r,H)/\lk k (.slice none 0 0) (.mp r) (.s (.int k n)) false H=some (x,H)/\Own b H x m ((je es n).getD [])/\nameOf x≠some q/\q < H.next/\(∀r',nameOf x=some r'->b<=r')/\
   ∀H1 x' l',H.next<=H1.next->H1.base<=b->(∀r',r' < H.next->nameOf x≠some r'->H1.get r'=H.get r')->Fit H H1 x x' m l'->
    ∃H',mup k (.mp r) (.s (.int k n)) x' H1=some (aO,H')/\Good b H' (upd g q (cs.set i (.maps k m (mM es n l'))))/\Step b H1 H'/\H'.next=H1.next:=by
 obtain⟨h0,τ,hR⟩:=G;have R:=hR q cs h;obtain⟨ty,xs,h1,h2,h3,h4⟩:=R.blk;have hqn:=R.hi;have hlt:i < xs.length:=by rw [h2];exact(zaf.1 hi).1
 have hx:xs[i]?=some (xs[i]'hlt):=zab hlt;have:=h4 i _ _ hi hx;simp only [CR] at this;obtain⟨aes,⟨r,e,t1,t2,t3,t4⟩,a2,a3⟩:=this;rw [e] at hx;have hrq:q≠r:=by intro e;subst e;rw [R.tag] at t1;cases t1
 obtain⟨x,x1,x2⟩:∃x,OS b H τ (q,i+1,1,n) x m ((je es n).getD [])/\lk k (.slice none 0 0) (.mp r) (.s (.int k n)) false H=some (x,H):=by
  cases hn:je es n with
  | none=>
   have hf:nM aes n=none:=by rw [qB];exact(Nk a2).1 hn
   refine⟨zN,.inl ⟨rfl,rfl⟩,?_⟩;simp only [lk,jy,aT,zah,lkO,t4,and_self,if_true,hf];rfl
  | some l=>
   obtain⟨j,w,b1,b2,b3⟩:=Ew a2 hn;refine⟨w,a3 j n l w b2 b3,?_⟩;simp only [lk,jy,aT,zah,lkO,t4,and_self,if_true,qB,b1];rfl
 have htag:∀r',nameOf x=some r'->τ r'=some (q,i+1,1,n)/\b<=r':=by
  intro r' hr;rcases x1 with⟨rfl,_⟩ | ⟨r0,gg,off,n',cap,ex,ty',all,rfl,k1,k2,_⟩
  ·cases hr
  ·simp only [nameOf,zaa] at hr;subst hr;exact⟨k1,k2⟩
 have hxq:nameOf x≠some q:=λe=> by have:=(htag q e).1;rw [R.tag] at this;cases this
 have hxr:nameOf x≠some r:=λe=> by have:=(htag r e).1;rw [t1] at this;simp at this
 refine⟨r,x,by rw [dK h1,hx];rfl,x2,x1.own,hxq,hqn,λr' hr=> (htag r' hr).2,λH1 x' l' hn hb hk hf=> ?_⟩;have hg1:H1.get r=.map k aes:=by rw [hk r t3 hxr,t4]
 refine⟨H1.put r (.map k (G9 aes n x')),?_,?_,Step.put _ t2,rfl⟩
 ·simp only [mup,hg1];rw [if_pos ⟨trivial,trivial,by omega⟩]
 ·refine uO (τ':=λr'=> if H.next<=r' then some (q,i+1,1,n) else τ r') h0 hR (show H.next<=H1.next from hn) (λr' hr ht=> ⟨by rw [if_neg (by omega)],?_⟩)
   ⟨by rw [if_neg (by omega)];exact R.tag,R.lo,show q < H1.next by omega,sJ (xs:=xs) (by rw [get_put,if_neg hrq,hk q hqn hxq];exact h1) (R.tyl _ _ _ h1),ty,xs,by rw [get_put,if_neg hrq,hk q hqn hxq];exact h1,by simp [h2],h3,λj cc y hc hy=> ?_⟩
  ·rw [get_put,if_neg (by intro e;subst e;exact ht _ _ _ t1)];exact hk r' hr λe=> ht _ _ _ (htag r' e).1
  ·rcases kR hc with⟨rfl,rfl⟩ | ⟨hj,hc⟩
   ·rw [hx] at hy;cases hy;refine⟨mM aes n x',⟨r,rfl,by simp only;rw [if_neg (by omega)];exact t1,t2,show r < H1.next by omega,by rw [get_put,if_pos rfl,Nv]⟩,GH a2,λj' n' cells y' h5 h6=> ?_⟩;rcases JF hnd h5 with⟨rfl,rfl⟩ | ⟨hne,h5⟩
    ·rcases JF (by rw [a2];exact hnd) h6 with⟨_,rfl⟩ | ⟨hne,_⟩
     ·rcases hf with hf | ⟨r0,gg,off,n'',cap,ex,ty',all,rfl,k1,k2,k3,k4,k5⟩
      ·exact .inl hf
      ·have hr0:r0≠r:=by
        rcases k1 with k1 | k1
        ·intro e;subst e;exact hxr k1
        ·omega
       refine .inr ⟨r0,gg,off,n'',cap,ex,ty',all,rfl,?_,?_,k2,k3,by rw [get_put,if_neg hr0];exact k4,k5⟩
       ·show(if H.next<=r0 then some (q,j+1,1,n') else τ r0)=some (q,j+1,1,n');split
        ·rfl
        ·rcases k1 with k1 | k1
         ·exact(htag r0 k1).1
         ·omega
       ·rcases k1 with k1 | k1
        ·exact(htag r0 k1).2
        ·omega
     ·exact absurd rfl hne
    ·rcases JF (by rw [a2];exact hnd) h6 with⟨h7,_⟩ | ⟨_,h6⟩
     ·exact absurd h7 hne
     ·refine(a3 j' n' cells y' h5 h6).keep (show H.next<=H1.next from hn) λr' hr ht=> ⟨by rw [if_neg (by omega)];exact ht,?_⟩
      rw [get_put,if_neg (by intro e;subst e;rw [t1] at ht;simp at ht)];refine hk r' hr λe=> ?_;have:=(htag r' e).1;rw [this] at ht;simp only [zaa,zad,true_and] at ht;exact hne ht.symm
   ·refine(h4 j cc y hc hy).keep (show H.next<=H1.next from hn) λr' s t hr ht=> ⟨by rw [if_neg (by omega)];exact ht,?_⟩
    rw [get_put,if_neg (by intro e;subst e;rw [t1] at ht;simp only [zaa,zad,zb2] at ht;exact hj ht.2.1.symm)];refine hk r' hr λe=> ?_;have:=(htag r' e).1;rw [this] at ht;simp only [zaa,zad,zb2] at ht;exact hj ht.2.1.symm
theorem Good.agz(G:Good b H g)(h:g q=some cs){i m:Nat}{k:IntKind}{es:List (Int × List AV)}(hi:cs[i]?=some (.maps k m es)):
  ∃r aes,ld (.ref q 0 i) H=some (.mp r,H)/\r < H.next/\H.get r=.map k aes/\aes.map (·.1)=es.map (·.1):=by
 obtain⟨h0,τ,hR⟩:=G;have R:=hR q cs h;obtain⟨ty,xs,h1,h2,h3,h4⟩:=R.blk;have hlt:i < xs.length:=by rw [h2];exact(zaf.1 hi).1
 have hx:xs[i]?=some (xs[i]'hlt):=zab hlt;have:=h4 i _ _ hi hx;simp only [CR] at this;obtain⟨aes,⟨r,e,t1,t2,t3,t4⟩,a2,a3⟩:=this;rw [e] at hx;exact⟨r,aes,by rw [dK h1,hx];rfl,t3,t4,a2⟩
end
abbrev zK(t:Turns):List (Int × List AV):=t.wait.map λe=> (e.1,e.2.flatMap EY)
theorem zL(t:Turns):(zK t).map (·.1)=t.wait.map (·.1):=by simp [zK]
theorem ED(t:Turns)(line:Int):(je (zK t) line).getD []=(t.ws line).flatMap EY:=by
 rw [zK,JC (λl:List (Int × Int)=> l.flatMap EY)];unfold Turns.ws;cases je t.wait line <;> rfl
theorem Nw(w:List (Int × List (Int × Int)))(line:Int)(l:List (Int × Int)):mM (w.map λe=> (e.1,e.2.flatMap EY)) line (l.flatMap EY)=(mM w line l).map λe=> (e.1,e.2.flatMap EY):=by
 induction w with
 | nil=> rfl
 | cons e w ih=>
  obtain⟨k,v⟩:=e;simp only [zaC,mM];split
  ·rfl
  ·rw [ih];rfl
section
variable {b:Nat}{H:aj}{g:Store}{q:Nat}
theorem abB(G:Good b H g)(hb:H.base<=b){t:Turns}(h:g q=some (fZ t))(hw:(t.wait.map (·.1)).Nodup)(line who id:Int)(hl:(t.ws line).length < 1000000):
  ∃H',cl 195 [.ref q 0 0,I line,I who,I id] H=some (B (t.ask line who id).2,H')/\Good b H' (upd g q (fZ (t.ask line who id).1))/\Step b H H':=by
 refine jw rfl rfl (alk _ _ _ _ _ _) ?_;have e1:=vg G h line;have e2:=uF G h line;by_cases hneg:who < 0
 ·have hp:t.ask line who id=(t,false):=by simp only [Turns.ask];rw [if_pos hneg]
  rw [hp];refine⟨H,?_,by rw [dO h];exact G,Step.refl _ _⟩;simp -implicitDefEqProofs only [xq_,MC,hneg]
 ·by_cases hc:(t.owned line || !(t.ws line).isEmpty)=true
  ·have hp:t.ask line who id=({ t with wait:=mM t.wait line (t.ws line++[(who,id)]) },false):=by simp only [Turns.ask];rw [if_neg hneg,if_pos hc]
   rw [hp];obtain⟨r,x,f1,f2,f3,f4,f5,f6,f7⟩:=G.JG h (i:=1) rfl (by rw [show t.wait.map (λe=> (e.1,e.2.flatMap λw=> [I w.1,I w.2]))=zK t from rfl,zL];exact hw) line;rw [show t.wait.map (λe=> (e.1,e.2.flatMap λw=> [I w.1,I w.2]))=zK t from rfl,ED] at f3;let o:dR:=.blk 0 293 [I who,I id];obtain⟨x',H1,a1,a2,a3,a4,a5⟩:=(f3.new o).app (e:=293) (by_:=16) (n:=(t.ws line).length) (by rw [bNew];exact hb) (by decide) (bf (enc:=EY) (λ_=> rfl) _) (jv (ex:=true) (n:=1) (m:=2) (l:=[I who,I id]) rfl) rfl (by unfold most;omega) (by unfold most;omega);have a2':Fit H H1 x x' 2 ((t.ws line++[(who,id)]).flatMap EY):=by
    rw [zbB];rcases a2 with a2 | ⟨r0,gg,off,n',cap,ex,ty,all,k0,k1,k2⟩
    ·exact .inl a2
    ·exact .inr ⟨r0,gg,off,n',cap,ex,ty,all,k0,k1.imp (λh=> h) λh=> zaz (za9 _) h,k2⟩
   have a5':∀r',r' < H.next->nameOf x≠some r'->H1.get r'=H.get r':=λr' hr hne=> by rw [a5 r' (zaw hr (za9 _)) hne,aQ hr]
   obtain⟨H',m1,m2,m3,m4⟩:=f7 H1 x' _ (zaz (za9 _) a3) (by rw [a4,bNew];exact hb) a5' a2';have hgq:H1.get q=(H.new o).get q:=by rw [a5' q f5 f4,aQ f5]
   refine⟨H',?_,?_,Step.trans ⟨by rw [a4,bNew],zaz (za9 _) a3,λr' hr=> a5' r' (zaw hr G.1) λe=> by have:=f6 r' e;omega⟩ m3⟩
   ·have ck1:∀{β:Type} (k:Option β),ck (aT (.ref q 0 1)) (H.new o) H1 k=k:=λk=> UD λr' hr=> by
     simp only [aT,zaa] at hr;subst hr;exact hgq
    have ed:bd 293 [(0,I who),(1,I id)]=some (.agg [I who,I id]):=by
     simp -implicitDefEqProofs only [xq_,ah9,gV,dM,acU];rfl
    have eb:=jm (e:=293) (m:=2) (z:=[zI,zI]) (v:=.agg [I who,I id]) (H:=H) rfl rfl rfl;simp only [dF] at eb;simp only [o] at a1 ck1;cases ho:t.owned line with
    | true=>
     rw [ho] at e1;simp -implicitDefEqProofs only [xq_,MC,hneg,e1,f1,f2,ed,acB,zbd,Nat.reduceLeDiff,eb,a1,m1,ck1]
    | false=>
     rw [ho] at e1 hc;have hgt:(0:Int) < (t.ws line).length:=by
      cases hz:t.ws line with
      | nil=> rw [hz] at hc;simp at hc
      | cons a l=> simp only [zak];omega
     simp -implicitDefEqProofs only [xq_,MC,hneg,e1,e2,hgt,f1,f2,ed,acB,zbd,Nat.reduceLeDiff,eb,a1,m1,ck1]
   ·have:fZ { t with wait:=mM t.wait line (t.ws line++[(who,id)]) }=(fZ t).set 1 (.maps .i64 2 (mM (zK t) line ((t.ws line++[(who,id)]).flatMap EY))):=by
     rw [Nw];rfl
    rw [this];exact m2
  ·have hp:t.ask line who id=({ t with iq:=mM t.iq line who },true):=by simp only [Turns.ask];rw [if_neg hneg,if_neg hc]
   rw [hp];have ho:t.owned line=false:=by cases h1:t.owned line <;> simp_all
   have hz:t.ws line=[]:=by
    rw [ho] at hc;cases hz:t.ws line with
    | nil=> rfl
    | cons a l=> rw [hz] at hc;simp at hc
   rw [ho] at e1;rw [hz] at e2;obtain⟨r,f1,_,_,f2⟩:=G.map h (i:=0) rfl;obtain⟨H',m1,m2,m3,m4⟩:=(f2 hb).1 line (I who);refine⟨H',?_,?_,m3⟩
   ·have hgt:¬(0:Int) < (0:Nat):=by decide
    simp -implicitDefEqProofs only [xq_,MC,hneg,e1,e2,zat,hgt,f1,m1]
   ·rw [DN (λn=> I n)] at m2;exact m2
theorem Ny(G:Good b H g)(hb:H.base<=b){t:Turns}(h:g q=some (fZ t))(line who:Int):
  ∃H',cl 210 [.ref q 0 0,I line,I who] H=some (I (t.release line who).2,H')/\Good b H' (upd g q (fZ (t.release line who).1))/\Step b H H':=by
 refine jw rfl rfl (alz _ _ _ _ _) ?_;have e1:=vg G h line;obtain⟨r,f1,f3,_,f2⟩:=G.map h (i:=0) rfl;have f4:=f3 (.int .i64 0) line false;rw [uS] at f4;cases hr:je t.iq line with
 | none=>
  have hp:t.release line who=(t,6):=by simp only [Turns.release,hr];rw [if_neg (by simp)]
  have ho:t.owned line=false:=by simp [Turns.owned,hr]
  rw [hp];rw [ho] at e1;refine⟨H,?_,by rw [dO h];exact G,Step.refl _ _⟩;simp -implicitDefEqProofs only [xq_,Si,e1,zal]
 | some w=>
  have ho:t.owned line=true:=by simp [Turns.owned,hr]
  rw [ho] at e1;simp only [hr,zah,zai,if_false] at f4;by_cases hw:w=who
  ·have hp:t.release line who=({ t with iq:=xG t.iq line },0):=by simp only [Turns.release,hr];rw [if_pos (by rw [hw])]
   rw [hp];obtain⟨H',m1,m2,m3,m4⟩:=(f2 hb).2 line;refine⟨H',?_,?_,m3⟩
   ·simp -implicitDefEqProofs only [xq_,Si,e1,zae,f1,f4,hw,m1]
   ·rw [Q8 (λn=> I n)] at m2;exact m2
  ·have hp:t.release line who=(t,6):=by simp only [Turns.release,hr];rw [if_neg (by simpa using hw)]
   rw [hp];refine⟨H,?_,by rw [dO h];exact G,Step.refl _ _⟩;simp -implicitDefEqProofs only [xq_,Si,e1,zae,zal,f1,f4,hw]
def alS(o:Option (Int × Int)):AV:=.tup [I (o.getD (0,0)).1,I (o.getD (0,0)).2,B o.isSome]
theorem YR(G:Good b H g)(hb:H.base<=b){t:Turns}(h:g q=some (fZ t))(hw:(t.wait.map (·.1)).Nodup)(line:Int)(hl:(t.ws line).length < 1000000):
  ∃H',cl 161 [.ref q 0 0,I line] H=some (alS (t.next line).2,H')/\Good b H' (upd g q (fZ (t.next line).1))/\Step b H H':=by
 refine jw rfl rfl (akN _ _ _ _) ?_;have e1:=vg G h line;have e2:=uF G h line;cases ho:t.owned line with
 | true=>
  have hp:t.next line=(t,none):=by simp only [Turns.next,ho,if_true]
  rw [hp];rw [ho] at e1;refine⟨H,?_,by rw [dO h];exact G,Step.refl _ _⟩;simp -implicitDefEqProofs only [xq_,RQ,e1,alS,za0,zaL]
 | false=>
  rw [ho] at e1;cases hz:t.ws line with
  | nil=>
   have hp:t.next line=(t,none):=by simp only [Turns.next,ho,hz,zai,if_false]
   rw [hp];rw [hz] at e2;refine⟨H,?_,by rw [dO h];exact G,Step.refl _ _⟩;simp -implicitDefEqProofs only [xq_,RQ,e1,e2,zat,Int.ofNat_zero,alS,za0,zaL]
  | cons w l=>
   have hp:t.next line=(⟨mM t.iq line w.1,mM t.wait line l⟩,some w):=by simp only [Turns.next,ho,hz,zai,if_false]
   rw [hp];rw [hz] at e2;obtain⟨r,x,f1,f2,f3,f4,f5,f6,f7⟩:=G.JG h (i:=1) rfl (by rw [show t.wait.map (λe=> (e.1,e.2.flatMap λw=> [I w.1,I w.2]))=zK t from rfl,zL];exact hw) line;rw [show t.wait.map (λe=> (e.1,e.2.flatMap λw=> [I w.1,I w.2]))=zK t from rfl,ED,hz] at f3;have hs:=f3.is (n:=(w::l).length) (by decide) (bf (enc:=EY) (λ_=> rfl) _);have s1:=hs.ix (k:=.i64) (i:=(0:Int)) (by omega) (by simp only [zak];omega);rw [show((0:Int).toNat)=0 from rfl] at s1;have s2:=iW (enc:=EY) (λ_=> rfl) hs (i:=0) (a:=w) rfl;have G1:=G.newObj (ty:=293) (xs:=[I w.1,I w.2]) rfl;have hqn:q≠H.next:=G.ne h
   have h1:upd g H.next ([I w.1,I w.2].map .av) q=some (fZ t):=by rw [upd_ne hqn];exact h
   obtain⟨r',x',f1',f2',f3',f4',f5',f6',f7'⟩:=G1.JG h1 (i:=1) rfl (by rw [show t.wait.map (λe=> (e.1,e.2.flatMap λw=> [I w.1,I w.2]))=zK t from rfl,zL];exact hw) line;rw [show t.wait.map (λe=> (e.1,e.2.flatMap λw=> [I w.1,I w.2]))=zK t from rfl,ED,hz] at f3';have hln:=f3'.is (n:=(w::l).length) (by decide) (bf (enc:=EY) (λ_=> rfl) _);rcases f3' with⟨_,f3'⟩ | ⟨r0,gg,off,n',cap,ex,ty,all,rfl,k2,k3,k4,k5,k6,k7,k8⟩
   ·simp [EY] at f3'
   have hn':n'=l.length+1:=by have:=hln.2.2.1;simp only [zak] at this;omega
   subst hn';have sl:=Bj (r:=r0) (gg:=gg) (off:=off) (m:=2) (len:=l.length+1) (cap:=cap) (ex:=ex) (k1:=.i64) (lo:=1) (by decide) (by omega) k4;have t1:(1:Int).toNat=1:=rfl;rw [t1,zbd,Nat.add_sub_cancel] at sl;have hle:(l.length+1)*2<=cap*2:=zaD _ k4;have hfit:Fit (H.new (.blk 0 293 [I w.1,I w.2])) (H.new (.blk 0 293 [I w.1,I w.2])) (.sl r0 gg off 2 (l.length+1) cap ex) (.sl r0 gg (off+2) 2 l.length (cap - 1) ex) 2 (l.flatMap EY):=by
    refine .inr ⟨r0,gg,off+2,l.length,cap - 1,ex,ty,all,rfl,.inl rfl,k3,by omega,k5,by rw [Nat.sub_mul];omega,k7,?_⟩;have:=congrArg (List.drop 2) k8;rw [zaH,List.drop_append_of_le_length (by simp [EY]),show(EY w).drop 2=[] from rfl,zaX,zce,zbE] at this;rw [this]
    congr 1
    omega
   obtain⟨H2,m1,G2,m3,m4⟩:=f7' (H.new (.blk 0 293 [I w.1,I w.2])) _ _ (zac _) (by rw [bNew];exact hb) (λ_ _ _=> rfl) hfit;have e3:(fZ t).set 1 (.maps .i64 2 (mM (zK t) line (l.flatMap EY)))=fZ ⟨t.iq,mM t.wait line l⟩:=by
    rw [Nw];rfl
   rw [show(List.map (λe=> (e.1,List.flatMap (λw=> [I w.1,I w.2]) e.2)) t.wait)=zK t from rfl,e3] at G2;obtain⟨ro,o1,_,_,o2⟩:=G2.map upd_same (i:=0) rfl;have hb2:H2.base<=b:=by rw [m3.base,bNew];exact hb
   obtain⟨H3,p1,G3,p3,p4⟩:=(o2 hb2).1 line (I w.1);have j2:∀cs,upd (upd g H.next ([I w.1,I w.2].map .av)) q cs H.next=some ([I w.1,I w.2].map .av):=λcs=> by rw [upd_ne hqn.symm,upd_same]
   have v1:=G2.load (j2 _) (i:=0) (x:=I w.1) rfl;rw [mG] at G3;have v2:=G3.load (j2 _) (i:=0) (x:=I w.1) rfl;have v3:=G3.load (j2 _) (i:=1) (x:=I w.2) rfl;refine⟨H3,?_,?_,((Step.new _ G.1).trans m3).trans p3⟩
   ·have hne:¬((l.length+1:Nat):Int)=0:=by omega
    have hbn:H.base<=H.next:=zaz hb G.1
    simp only [EY] at s2;simp -implicitDefEqProofs only [Nat.reduceAdd,setAt,xq_,hq_,RQ,e1,e2,hne,f1,f2,s1,s2,hbn,f1',f2',sl,m1,o1,v1,p1,v2,v3,alS,zay,zaM]
   ·rw [DN (λn=> I n)] at G3;refine G3.sub ?_;exact((pO.refl g).more (G.isNone (zac _)) _).both q _
end
abbrev blw(n lo hi:Int):Bool:=decide (lo<=n) && decide (n < hi)
theorem abC(H:aj)(n lo hi:Int):cl 179 [I n,I lo,I hi] H=some (B (blw n lo hi),H):=by
 refine aN rfl rfl (aej _ _ _ _ _ ?_);by_cases h:lo<=n
 ·simp -implicitDefEqProofs only [xq_,Me,h,blw,zaO]
 ·simp -implicitDefEqProofs only [xq_,Me,h,blw,zaQ]
theorem three(a b c:Bool):a=false∨(a=true/\b=false)∨(a=true/\b=true/\c=false)∨(a=true/\b=true/\c=true):=by revert a b c;decide
theorem Pkt.ok_eq(p:Pkt):p.ok=(blw p.src 0 6 && blw p.dst 0 6 && blw p.id 0 4096 && (blw p.kind 1 10 && blw p.line 0 8 && blw p.ptr (-1) 6) && blw p.state 0 3 && !decide ((4:Int) < p.data.length)):=by
 have:decide (p.data.length<=4)=!decide ((4:Int) < p.data.length):=by
  by_cases h:p.data.length<=4
  ·have:¬(4:Int) < p.data.length:=by omega
   simp [h,this]
  ·have:(4:Int) < p.data.length:=by omega
   simp [h,this]
 unfold Pkt.ok;rw [this];simp only [blw,Bool.and_assoc]
theorem yw(H:aj)(p:Pkt):cl 141 [.agg p.av] H=some (I (if p.ok=true then 0 else 1),H):=by
 refine aW rfl rfl (adQ _ _ _) ?_ dW;have e1:=λH n lo hi=> abC H n lo hi;have e2:=λH=> (jr H p.data).lnS;rw [p.ok_eq];generalize a1:blw p.src 0 6=b1;generalize a2:blw p.dst 0 6=b2;generalize a3:blw p.id 0 4096=b3;generalize a4:blw p.kind 1 10=b4;generalize a5:blw p.line 0 8=b5;generalize a6:blw p.ptr (-1) 6=b6;generalize a7:blw p.state 0 3=b7;by_cases h8:(4:Int) < p.data.length
 all_goals rcases three b1 b2 b3 with rfl | ⟨rfl,rfl⟩ | ⟨rfl,rfl,rfl⟩ | ⟨rfl,rfl,rfl⟩
 all_goals rcases three b4 b5 b6 with rfl | ⟨rfl,rfl⟩ | ⟨rfl,rfl,rfl⟩ | ⟨rfl,rfl,rfl⟩
 all_goals cases b7
 all_goals simp -implicitDefEqProofs only [Nat.reduceLT,Int.reduceNeg,xq_,hq_,XP,aB,Pkt.av,e1,e2,a1,a2,a3,a4,a5,a6,a7,h8,zae,zal,zaQ,zb0]
theorem GI(H:aj)(k:Int):cl 64 [I k] H=some (B (DR k),H):=by
 refine aW rfl rfl (aoe _ _ _) ?_ dW;by_cases h:1<=k
 ·simp -implicitDefEqProofs only [xq_,afM,h,DR,zaO]
 ·simp -implicitDefEqProofs only [xq_,afM,h,DR,zaQ]
theorem Nz(H:aj)(k:Int):cl 197 [I k] H=some (I (IE k),H):=by
 refine aW rfl rfl (alo _ _ _) ?_ dW;by_cases h1:k=1
 ·simp -implicitDefEqProofs only [Int.reduceEq,xq_,Ap,h1,IE]
 ·by_cases h2:k=2
  ·simp -implicitDefEqProofs only [Int.reduceEq,xq_,Ap,ny,h2,IE,true_or]
  ·by_cases h4:k=4
   ·simp -implicitDefEqProofs only [Int.reduceEq,xq_,Ap,ny,h4,IE,true_or,or_true]
   ·by_cases h5:k=5
    ·simp -implicitDefEqProofs only [Int.reduceEq,xq_,Ap,ny,h5,IE,or_true]
    ·by_cases h3:k=3
     ·simp -implicitDefEqProofs only [Int.reduceEq,xq_,Ap,ny,yj,h3,IE,true_or,false_or]
     ·by_cases h6:k=6
      ·simp -implicitDefEqProofs only [Int.reduceEq,xq_,Ap,ny,yj,h6,IE,or_true,false_or]
      ·simp -implicitDefEqProofs only [xq_,Ap,ny,yj,h1,h2,h3,h4,h5,h6,IE,false_or]
theorem lJ(z:Int):((by8 z).toNat:Int)=z % 256:=by
 unfold by8;have h:(BitVec.ofInt 8 z).toNat=(z % ((2 ^ 8:Nat):Int)).toNat:=BitVec.toNat_ofInt z;have h2:(0:Int)<=z % 256:=Int.emod_nonneg _ (by decide);rw [h,show((2 ^ 8:Nat):Int)=256 from rfl,Int.toNat_of_nonneg h2]
theorem SY(z:Int):(AV.s (.int .u8 (IntKind.wrap .u8 z)))=Y (by8 z):=by
 show _=AV.s (.int .u8 ((by8 z).toNat:Int));rw [lJ,adn rfl];rfl
theorem aoU(H:aj)(f:Bool):cl0 142 [B f] H=some (Y (by8 (if f then 1 else 0)),H):=by
 refine fV (akt _ _ _ ?_);cases f
 ·simp -implicitDefEqProofs only [xq_,XQ];rfl
 ·simp -implicitDefEqProofs only [xq_,XQ];rfl
def aqi(H0 H:aj)(x:AV)(l:List AV):Prop:=
 (x=zN/\l=[])∨(∃r g ty,x=.sl r g 0 1 l.length l.length false/\H0.next<=r/\r < H.next/\H.get r=.blk g ty l)∨(∃r ty,x=.sl r 0 0 1 l.length l.length true/\H0.next<=r/\r < H.next/\H.get r=.blk 0 ty l)
structure Acc(H0 H:aj)(x:AV)(l:List AV):Prop where
 gro:Gro H0 H
 base:H.base<=H0.next
 x:aqi H0 H x l
theorem Acc.is {H0 H:aj}{x:AV}{l:List AV}(a:Acc H0 H x l):aG H x 1 l.length l:=by
 refine⟨by omega,?_⟩;rcases a.x with⟨rfl,rfl⟩ | ⟨r,g,ty,rfl,h1,h2,h3⟩ | ⟨r,ty,rfl,h0',h1,h2⟩
 ·exact⟨rfl,rfl,rfl⟩
 ·exact⟨rfl,rfl,⟨h2,zac _⟩,ty,l,h3,by omega,by simp⟩
 ·exact⟨rfl,rfl,⟨h1,zac _⟩,ty,l,h2,by omega,by simp⟩
theorem Acc.one {H0 H:aj}{x:AV}{l:List AV}(a:Acc H0 H x l):One x:=by
 rcases a.x with⟨rfl,rfl⟩ | ⟨r,g,ty,rfl,h1,h2,h3⟩ | ⟨r,ty,rfl,h0',h1,h2⟩
 ·exact mJ
 ·exact qj
 ·exact qj
theorem Acc.aoV {H0 H H':aj}{x:AV}{l:List AV}(a:Acc H0 H x l)(g:Gro H H'):Acc H0 H' x l:=by
 refine⟨a.gro.trans g,by rw [g.base];exact a.base,?_⟩;rcases a.x with h | ⟨r,g',ty,h0,h1,h2,h3⟩ | ⟨r,ty,h0,h0',h1,h2⟩
 ·exact .inl h
 ·exact .inr (.inl ⟨r,g',ty,h0,h1,zaw h2 g.next,by rw [g.same r h2];exact h3⟩)
 ·exact .inr (.inr ⟨r,ty,h0,h0',zaw h1 g.next,by rw [g.same r h1];exact h2⟩)
theorem Gro.put {H0 H:aj}{r g ty:Nat}{xs:List AV}(G:Gro H0 H)(hr:H0.next<=r):Gro H0 (H.put r (.blk g ty xs)):=
 ⟨G.next,G.base,λx hx=> by
  have:(H.put r (.blk g ty xs)).get x=H.get x:=by simp only [aj.put];rw [if_neg (by omega)]
  rw [this];exact G.same x hx,λh x k es=> by
  simp only [aj.put];split
  ·simp
  ·exact G.MJ h x k es⟩
theorem Acc.app {H0 H:aj}{x:AV}{l:List AV}(a:Acc H0 H x l){e by_ n:Nat}{y:AV}{new:List AV}(hy:aG H y 1 n new)(hc:new.all AV.aH=true)(hn:n≠0)(hs:l.length+n < 1000)(hby:by_<=16):
  ∃x' H',app e 1 by_ x y H=some (x',H')/\Acc H0 H' x' (l++new):=by
 have hnew:new.length=n:=by have:=hy.1;omega
 obtain⟨c1,c2⟩:=hy.sK;have hb1:n*by_<=most:=by
  have:n*by_<=1000*16:=Nat.mul_le_mul (by omega) hby;unfold most;omega
 have hb2:(l.length+n)*by_<=most:=by
  have:(l.length+n)*by_<=1000*16:=Nat.mul_le_mul (by omega) hby;unfold most;omega
 have hm1:n<=most:=by unfold most;omega
 have hm2:l.length+n<=most:=by unfold most;omega
 rcases a.x with⟨rfl,rfl⟩ | ⟨r,g,ty,rfl,h1,h2,h3⟩ | ⟨r,ty,rfl,h0',h1,h2⟩
 ·refine⟨_,_,IC hy hc hn hm1 hb1,a.gro.trans (Gro.new _ _ _ _),by rw [bNew];exact a.base,.inr (.inl ⟨H.next,0,e+eH,?_,a.gro.next,by rw [nNew];omega,?_⟩)⟩
  ·simp only [zaX,hnew]
  ·rw [aK rfl,zaX]
 ·refine⟨.sl r (g+1) 0 1 (l.length+n) (l.length+n) false,H.put r (.blk (g+1) (grT e ty 0) (l++new)),?_,a.gro.put h1,a.base,.inr (.inl ⟨r,g+1,grT e ty 0,?_,h1,h2,?_⟩)⟩
  ·simp only [Proofs.YthmoogcacpmjiaaGreat.app,c1,c2];unfold bU;rw [if_pos ⟨hy.1,hc⟩];simp only [h3];rw [if_pos ⟨trivial,trivial,by omega⟩,if_neg hn,if_neg (by omega),if_pos ⟨hm2,hb2⟩];simp only [zai,if_false,zaP];rw [if_pos (zaz a.base h1)];simp
  ·simp only [zaq,hnew]
  ·simp only [aj.put,if_true]
 ·refine⟨.sl H.next 0 0 1 (l.length+n) (l.length+n) false,H.new (.blk 0 (e+eH) (l++new)),?_,a.gro.trans (Gro.new _ _ _ _),by rw [bNew];exact a.base,.inr (.inl ⟨H.next,0,e+eH,?_,a.gro.next,by rw [nNew];omega,aK rfl⟩)⟩
  ·simp only [Proofs.YthmoogcacpmjiaaGreat.app,c1,c2];unfold bU;rw [if_pos ⟨hy.1,hc⟩];simp only [h2];rw [if_pos ⟨trivial,trivial,by omega⟩,if_neg hn,if_neg (by omega),if_pos ⟨hm2,hb2⟩];simp
  ·simp only [zaq,hnew]
theorem YS(n:Int):∀k,k < 8->(oG n).drop (8 - (k+1))=by8 (n.fdiv (2 ^ (8*k)))::(oG n).drop (8 - k)
 | 0,_ | 1,_ | 2,_ | 3,_ | 4,_ | 5,_ | 6,_ | 7,_=> rfl
 | k+8,h=> absurd h (by omega)
theorem aoW(H:aj)(hb:H.base<=H.next)(n:Int):∃y H',cl0 143 [I n] H=some (y,H')/\Acc H H' y ((oG n).map Y):=by
 have key:∀k:Nat,k<=8->∀(x:AV) (K:aj) (l:List By),Acc H K x (l.map Y)->l.length+k=8->∃y H',BG cl0 [I n,x,I (8*(k:Int) - 8)] K=some (y,H')/\Acc H H' y ((l++(oG n).drop (8 - k)).map Y):=by
  intro k
  induction k with
  | zero=>
   intro hk x K l a hl;have h1:¬((0:Int)<=8*((0:Nat):Int) - 8):=by omega
   refine⟨x,K,?_,by rw [show(oG n).drop (8 - 0)=[] from rfl,zbh];exact a⟩;rw [RH];simp -implicitDefEqProofs only [xq_,h1]
  | succ k ih=>
   intro hk x K l a hl;have h0:8*((k+1:Nat):Int) - 8=((8*k:Nat):Int):=by omega
   have h1:(0:Int)<=((8*k:Nat):Int):=by omega
   have e1:bi .shr 3 (I n) (I ((8*k:Nat):Int))=some (I (n.fdiv (2 ^ (8*k)))):=by
    have:=Px (P:=Tryz.prog) (t:=3) (k:=.i64) (k':=.i64) (a:=n) h1;rw [zar,show min (8*k) (IntKind.bits .i64)=8*k from zbg (show 8*k<=64 by omega)] at this;exact this
   have e2:cv 3 5 (I (n.fdiv (2 ^ (8*k)))) K=some (Y (by8 (n.fdiv (2 ^ (8*k)))),K):=by rw [<-SY];exact acV
   obtain⟨c,hc⟩:∃c,by8 (n.fdiv (2 ^ (8*k)))=c:=⟨_,rfl⟩
   rw [hc] at e2;have b1:bs 180 1 [(0,Y c)] K=some (.sl K.next 0 0 1 1 1 true,K.new (.blk 0 5 [Y c])):=(QY (by decide)).trans (jm rfl rfl rfl);have a1:=a.aoV (Gro.new K 0 5 [Y c]);obtain⟨x',K',p1,a2⟩:=a1.app (e:=5) (by_:=1) (n:=1) (jv (e:=5) (H:=K) (ex:=true) (n:=1) (m:=1) (l:=[Y c]) rfl) rfl (by decide) (by simp;omega) (by decide);have h2:((8*k:Nat):Int) - 8=8*(k:Int) - 8:=by omega
   have w:=wrap_i64 (a:=8*(k:Int) - 8) (by omega) (by omega);obtain⟨y,H',r1,r2⟩:=ih (by omega) x' K' (l++[c]) (by simpa using a2) (by simp;omega);refine⟨y,H',?_,?_⟩
   ·rw [RH,h0];simp -implicitDefEqProofs only [xq_,h1,e1,e2,b1,p1,iT,h2,w,r1]
   ·rw [YS n k (by omega),hc]
    simpa using r2
 obtain⟨y,H',r1,r2⟩:=key 8 (zac _) zN H [] ⟨Gro.refl H,hb,.inl ⟨rfl,rfl⟩⟩ rfl;refine⟨y,H',fV (aku _ _ _ ?_),by simpa using r2⟩;have:(8*((8:Nat):Int) - 8)=56:=rfl;rw [this] at r1;simp -implicitDefEqProofs only [adS,r1]
theorem GK {z:AV}:∀(rest pre:List AV),(∀x∈rest,One x)->dM (λi=> some (i*1,1)) (pre++bI [z] rest.length) ((rest.zipIdx pre.length).map λp=> (p.2,p.1))=some (pre++rest)
 | [],pre,_=> by simp [bI,bZ]
 | x::rest,pre,h=> by
  rw [List.zipIdx_cons,zaC,DL (off:=pre.length) (by simp) (h x (by simp)).1 (by simp [bI])];have e:(pre++bI [z] (x::rest).length).set pre.length x=(pre++[x])++bI [z] rest.length:=by
   show(pre++([z]++bI [z] rest.length)).set pre.length x=_;rw [List.set_append_right _ _ (zac _),Nat.sub_self];simp
  rw [e];have ih:=GK (z:=z) rest (pre++[x]) λy hy=> h y (by simp [hy]);rw [zaq,zak,zat,za7] at ih;rw [ih];simp
theorem abD {e:Nat}{z:AV}{l:List AV}{H:aj}(h:∀x∈l,One x):bsl e 1 [z] l.length ((l.zipIdx 0).map λp=> (p.2,p.1)) H=some (.sl H.next 0 0 1 l.length l.length true,H.new (.blk 0 e l)):=by
 have:=GK (z:=z) l [] h;simp only [zaX,zat] at this;unfold bsl;rw [this];have ha:l.all AV.aH=true:=zaZ.2 λx hx=> (h x hx).2;simp only [ha,if_true]
theorem alT(H:aj)(n lo hi:Int):cl0 179 [I n,I lo,I hi] H=some (B (blw n lo hi),H):=by
 refine fV (aej _ _ _ _ _ ?_);by_cases h:lo<=n
 ·simp -implicitDefEqProofs only [xq_,Me,h,blw,zaO]
 ·simp -implicitDefEqProofs only [xq_,Me,h,blw,zaQ]
theorem alU(H:aj)(p:Pkt){x:AV}(hx:jU H x p.data)(hok:p.ok=true):cl0 141 [.agg (p.avx x)] H=some (I 0,H.new (.blk 0 70 (p.avx x))):=by
 refine fV (adQ _ _ _ ?_);have e1:=λH n lo hi=> alT H n lo hi;have e2:=(hx.is.new (.blk 0 70 (p.avx x))).lnS;rw [p.ok_eq] at hok;generalize a1:blw p.src 0 6=b1 at hok;generalize a2:blw p.dst 0 6=b2 at hok;generalize a3:blw p.id 0 4096=b3 at hok;generalize a4:blw p.kind 1 10=b4 at hok;generalize a5:blw p.line 0 8=b5 at hok;generalize a6:blw p.ptr (-1) 6=b6 at hok;generalize a7:blw p.state 0 3=b7 at hok;simp only [zaj] at hok;obtain⟨⟨⟨⟨⟨rfl,rfl⟩,rfl⟩,⟨⟨rfl,rfl⟩,rfl⟩⟩,rfl⟩,a8⟩:=hok;have h8:¬(4:Int) < p.data.length:=by simpa using a8
 have ax:=Ci (p:=p) hx.one;simp only [Pkt.avx] at e2 ax ⊢;simp -implicitDefEqProofs only [Nat.reduceLT,Int.reduceNeg,xq_,hq_,XP,aB ax,e1,e2,a1,a2,a3,a4,a5,a6,a7,h8,zae]
theorem oz:∀l:List Int,(l.flatMap oG).length=l.length*8
 | []=> rfl
 | v::l=> by rw [zaH,zaq,oz l,iO,zak];omega
theorem alV {H:aj}(hb:H.base<=H.next)(p:Pkt){x:AV}(hx:jU H x p.data)(hok:p.ok=true):
  ∃y H',cl0 94 [.agg (p.avx x)] H=some (.tup [y,I 0],H')/\Gro H H'/\bH H' y (pU p)/\H'.base<=H'.next:=by
 have hok2:=hok;simp only [Pkt.ok,zaj,decide_eq_true_eq] at hok2;have ax:=Ci (p:=p) hx.one;let o:dR:=.blk 0 70 (p.avx x);let H1:=H.new o;let H2:=H1.new o;have g1:Gro H H1:=Gro.new H 0 _ _;have g2:Gro H1 H2:=Gro.new H1 0 _ _;have hb2:H2.base<=H2.next:=by simp only [H2,H1,bNew,nNew];omega
 have ck:=alU H1 p (hx.new o) hok;have at1:H1.get H.next=.blk 0 70 (p.avx x):=aK rfl
 have at2:H2.get H.next=.blk 0 70 (p.avx x):=by rw [g2.same _ (by simp only [H1,nNew];omega)];exact at1
 have lx:(p.avx x).length=9:=rfl;have l1:lda 9 (.ref H.next 0 0) H1=some (.agg (p.avx x),H1):=(fQ (off:=0) (n:=9) at1 (by rw [lx];exact zac _)).trans rfl;have lds:∀i v,(p.avx x)[i]?=some v->ld (.ref H.next 0 i) H2=some (v,H2):=λi v hv=> by rw [dK at2,hv];rfl
 have p0:=lds 0 (I p.kind) rfl;have p1:=lds 1 (I p.src) rfl;have p2:=lds 2 (I p.dst) rfl;have p3:=lds 3 (I p.id) rfl;have p4:=lds 4 (I p.line) rfl;have p5:=lds 5 (I p.ptr) rfl;have p6:=lds 6 (I p.state) rfl;have p7:=lds 7 (B p.flag) rfl;have p8:=lds 8 x rfl;have cv1:∀z H,cv 3 5 (I z) H=some (Y (by8 z),H):=λz H=> by rw [<-SY];exact acV
 have sh1:bi .shr 3 (I p.id) (.s (.int .u64 8))=some (I (p.id.fdiv 256)):=Px (P:=Tryz.prog) (t:=3) (k:=.i64) (k':=.u64) (a:=p.id) (n:=8) (by decide);have w1:=wrap_i64 (a:=p.ptr+1) (by omega) (by omega);have fl:=λH=> aoU H p.flag;have hx2:=(hx.new o).new o;have ln2:=hx2.is.lnS;let hd:List By:=[by8 p.kind,by8 p.src,by8 p.dst,by8 (p.id.fdiv 256),by8 p.id,by8 p.line,by8 (p.ptr+1),by8 p.state,by8 (if p.flag then 1 else 0),by8 p.data.length]
 have bsH:bs 180 10 [(0,Y (by8 p.kind)),(1,Y (by8 p.src)),(2,Y (by8 p.dst)),(3,Y (by8 (p.id.fdiv 256))),(4,Y (by8 p.id)),(5,Y (by8 p.line)),(6,Y (by8 (p.ptr+1))),(7,Y (by8 p.state)),(8,Y (by8 (if p.flag then 1 else 0))),(9,Y (by8 p.data.length))] H2=some (.sl H2.next 0 0 1 10 10 true,H2.new (.blk 0 5 (hd.map Y))):=
  (QY (by decide)).trans (abD (l:=hd.map Y) λy hy=> by
   obtain⟨c,_,rfl⟩:=zaN.1 hy;exact af5)
 let H3:=H2.new (.blk 0 5 (hd.map Y));have g3:Gro H2 H3:=Gro.new H2 0 _ _;have l3:ld (.ref H.next 0 8) H3=some (x,H3):=by
  rw [dK (by rw [g3.same _ (by simp only [H2,H1,nNew];omega)];exact at2)];rfl
 have ln3:=(hx2.new (.blk 0 5 (hd.map Y))).is.lnS;have acc0:Acc H2 H3 (.sl H2.next 0 0 1 10 10 true) (hd.map Y):=⟨g3,by simp only [H3,bNew];exact hb2,.inr (.inr ⟨H2.next,5,rfl,zac _,by simp only [H3,nNew];omega,aK rfl⟩)⟩
 have key:∀k i,i+k=p.data.length->∀a K,Acc H2 K a ((hd++(p.data.take i).flatMap oG).map Y)->
   ∃y H',Jh cl0 [a,x,I p.data.length,I i] K=some (.tup [y,I 0],H')/\Gro H2 H'/\bH H' y (pU p)/\H'.base<=H'.next:=by
  intro k
  induction k with
  | zero=>
   intro i hi a K ac;have h1:¬((i:Int) < p.data.length):=by omega
   rw [zas (by omega)] at ac;have hlen:(dL p).length < 900:=by
    have h2:=oV p;unfold pU iV at h2;simp only [zaq,zak,zat,Pkt.bytes] at h2;omega
   have hbK:K.base<=K.next:=zaz ac.base ac.gro.next
   have bK:bH K a (dL p):=by
    have:=ac.is;rw [zaE] at this;exact⟨this,by omega⟩
   obtain⟨y,H',e1,g',b',hb'⟩:=af6 hbK bK hlen;refine⟨y,H',?_,ac.gro.trans g',b',hb'⟩;rw [Xz];simp -implicitDefEqProofs only [xq_,h1,e1]
  | succ k ih=>
   intro i hi a K ac;have h1:(i:Int) < p.data.length:=by omega
   have h6:(i:Int)+1=((i+1:Nat):Int):=by omega
   have h7:=wrap_i64 (a:=((i+1:Nat):Int)) (by omega) (by omega);obtain⟨v,hv⟩:∃v,p.data[i]?=some v:=⟨_,zab (by omega)⟩
   have hxK:=hx2.is.gK ac.gro.next λr _ hr=> ac.gro.same r hr
   have s1:=hxK.ix (k:=.i64) (i:=(i:Int)) (by omega) h1;rw [zar] at s1;have s2:ld (cZ x i) K=some (I v,K):=by rw [hxK.ld (by omega),zaB,hv];rfl
   have hbK:K.base<=K.next:=zaz ac.base ac.gro.next
   obtain⟨y,K1,e1,aw⟩:=aoW K hbK v;have ac1:=ac.aoV aw.gro;have hy:=aw.is;have hlt:(p.data.take i).length=i:=by rw [zao];omega
   obtain⟨a2,K2,e2,ac2⟩:=ac1.app (e:=5) (by_:=1) (n:=8) (by have h:=hy;rw [zaE,iO] at h;exact h) (aaQ _) (by decide) (by
    simp only [zaE,zaq];have:((p.data.take i).flatMap oG).length=i*8:=by rw [oz,hlt]
    rw [this];simp only [hd,zak,zat];omega) (by decide)
   have hap:((hd++(p.data.take i).flatMap oG).map Y)++(oG v).map Y=(hd++(p.data.take (i+1)).flatMap oG).map Y:=by
    rw [zb6,hv];simp
   rw [hap] at ac2;obtain⟨y',H',r1,r2,r3,r4⟩:=ih (i+1) (by omega) a2 K2 ac2;refine⟨y',H',?_,r2,r3,r4⟩;rw [Xz];simp -implicitDefEqProofs only [xq_,h1,s1,s2,e1,e2,aZ,h6,h7,r1]
 obtain⟨y,H',r1,r2,r3,r4⟩:=key p.data.length 0 (by omega) _ H3 (by simpa using acc0);refine⟨y,H',fV (aoF _ _ _ ?_),(g1.trans g2).trans r2,r3,r4⟩;have z0:((0:Nat):Int)=0:=rfl;rw [z0] at r1;simp only [H1,H2,H3,o,nNew] at ck l1 p0 p1 p2 p3 p4 p5 p6 p7 p8 ln2 bsH l3 ln3 r1;simp -implicitDefEqProofs only [Nat.reduceLT,xq_,ajI,aB ax,l1,ck,p0,p1,p2,p3,p4,p5,p6,p7,p8,cv1,sh1,aZ,w1,fl,ln2,bsH,l3,ln3,zae,r1]
def nmS(s:BitVec 64)(l:List By):BitVec 64:=l.foldl (λs c=> (s <<< 8) ||| c.setWidth 64) s
def nmV(l:List By):Int:=(nmS 0#64 l).toInt
theorem wrap_toInt(s:BitVec 64):IntKind.wrap .i64 (s.toNat:Int)=s.toInt:=by
 have h:=s.isLt;simp only [IntKind.wrap,IntKind.bits,IntKind.signed,BitVec.toInt_eq_toNat_cond,zaO,decide_eq_true_eq,ge_iff_le];split <;> split <;> omega
theorem agB {H:aj}{y:AV}{l:List By}(hx:bH H y l):cl0 147 [y] H=some (I (nmV l),H):=by
 have key:∀(k i:Nat),i+k=l.length->∀s:BitVec 64,BH cl0 [U64 s,y,I l.length,I i] H=some (I (nmS s (l.drop i)).toInt,H):=by
  intro k
  induction k with
  | zero=>
   intro i hi s;have h1:¬((i:Int) < l.length):=by omega
   have e1:cv 232 3 (U64 s) H=some (I s.toInt,H):=by rw [<-wrap_toInt];exact aaE (k:=.u64)
   rw [RJ,zaU (by omega)];simp -implicitDefEqProofs only [xq_,h1,e1]
   try rfl
  | succ k ih=>
   intro i hi s;have h1:(i:Int) < l.length:=by omega
   have h6:(i:Int)+1=((i+1:Nat):Int):=by omega
   have h7:=wrap_i64 (a:=((i+1:Nat):Int)) (by have:=hx.small;omega) (by have:=hx.small;omega);obtain⟨c,hc⟩:∃c,l[i]?=some c:=⟨_,zab (by omega)⟩
   have s1:=hx.ix (i:=i) (by omega);have s2:=hx.ld hc;have e1:cv 5 232 (Y c) H=some (U64 (c.setWidth 64),H):=
    (aaC (k:=.u8) (n:=(c.toNat:Int)) (H:=H)).trans (congrArg (λv=> some (v,H)) (aiA (k:=.u8) (k':=.u64) rfl c))
   have e2:bi .shl 232 (U64 s) (.s (.int .u64 8))=some (U64 (s <<< 8)):=Xb (k:=.u64) rfl s 8 (by decide) (by decide);have e3:bi .or 232 (U64 (s <<< 8)) (U64 (c.setWidth 64))=some (U64 ((s <<< 8) ||| c.setWidth 64)):=apP (k:=.u64) rfl _ _;have hd:l.drop i=c::l.drop (i+1):=by
    rw [zbn (by omega)];rw [zab (by omega)] at hc;rw [za3 hc]
   have ih1:=ih (i+1) (by omega) ((s <<< 8) ||| c.setWidth 64);have e5:nmS s (c::l.drop (i+1))=nmS ((s <<< 8) ||| c.setWidth 64) (l.drop (i+1)):=rfl;rw [RJ,hd,e5,<-ih1];simp -implicitDefEqProofs only [xq_,h1,s1,s2,e1,e2,e3,aZ,h6,h7]
   try rfl
 refine fV (akx _ _ _ ?_);have s0:=hx.is.lnS;have k0:=key l.length 0 (by omega) 0#64;rw [zaP] at k0;simp -implicitDefEqProofs only [xq_,adW,s0];exact k0
theorem or8 {s:BitVec 64}(c:By)(h:s.toNat < 2 ^ 56):((s <<< 8) ||| c.setWidth 64).toNat=s.toNat*256+c.toNat:=by
 have hc:=c.isLt;have h1:(s <<< 8).toNat=s.toNat <<< 8:=by
  rw [BitVec.toNat_shiftLeft,zcd];rw [Nat.shiftLeft_eq];omega
 have h2:(c.setWidth 64).toNat=c.toNat:=by rw [BitVec.toNat_setWidth,zcd (by omega)]
 rw [BitVec.toNat_or,h1,h2,<-Nat.shiftLeft_add_eq_or_of_lt hc,Nat.shiftLeft_eq]
theorem pz {N b:Nat}{s:BitVec 64}{c:By}(hs:s.toNat=N / (b*256))(hc:c.toNat=N / b % 256)(hN:N < 2 ^ 64)(hb:0 < b):((s <<< 8) ||| c.setWidth 64).toNat=N / b:=by
 have h0:N / (b*256)=N / b / 256:=(Nat.div_div_eq_div_mul N b 256).symm;have h1:N / b<=N:=Nat.div_le_self N b;rw [or8 c (by rw [hs,h0];omega),hs,hc,h0];omega
theorem YT(n:Int)(j:Nat)(hj:j+8<=64):(n / 2 ^ j) % 256=((n % 18446744073709551616) / 2 ^ j) % 256:=by
 have h64:(18446744073709551616:Int)=2 ^ j*2 ^ (64 - j):=by
  rw [<-Int.pow_add,show j+(64 - j)=64 by omega];rfl
 have h256:(2:Int) ^ (64 - j)=256*2 ^ (56 - j):=by
  rw [show 64 - j=8+(56 - j) by omega,Int.pow_add];rfl
 have hne:(2:Int) ^ j≠0:=Int.pow_ne_zero (by decide);have hq:n=n % 18446744073709551616+2 ^ j*(2 ^ (64 - j)*(n / 18446744073709551616)):=by
  rw [<-Int.mul_assoc,<-h64];exact(Int.emod_add_mul_ediv n 18446744073709551616).symm
 obtain⟨r,hr⟩:∃r,n % 18446744073709551616=r:=⟨_,rfl⟩
 obtain⟨q,hqq⟩:∃q,n / 18446744073709551616=q:=⟨_,rfl⟩
 rw [hr,hqq] at hq;rw [hr,hq,Int.add_mul_ediv_left _ _ hne,h256,Int.mul_assoc,Int.add_mul_emod_self_left]
theorem YU(n:Int)(k:Nat)(hk:k < 8){N:Nat}(hN:(N:Int)=n % 18446744073709551616):(by8 (n.fdiv (2 ^ (8*k)))).toNat=N / 2 ^ (8*k) % 256:=by
 have h:=lJ (n.fdiv (2 ^ (8*k)));have hp:(0:Int)<=2 ^ (8*k):=Int.pow_nonneg (by decide);rw [zbZ _ hp] at h ⊢;rw [YT n (8*k) (by omega),<-hN] at h;have h2:((N:Int) / 2 ^ (8*k)) % 256=((N / 2 ^ (8*k) % 256:Nat):Int):=by
  rw [Int.natCast_emod,Int.natCast_ediv,Int.natCast_pow];rfl
 rw [h2] at h;exact Int.ofNat_inj.1 h
theorem JH {n:Int}(h:I64 n):nmV (oG n)=n:=by
 obtain⟨h1,h2⟩:=h;obtain⟨N,hN⟩:∃N:Nat,(N:Int)=n % 18446744073709551616:=⟨(n % 18446744073709551616).toNat,Int.toNat_of_nonneg (Int.emod_nonneg _ (by decide))⟩
 have hlt:N < 2 ^ 64:=by omega
 have w:=λk hk=> YU n k hk hN;have s7:=pz (N:=N) (b:=2 ^ 56) (s:=0#64) (by rw [Nat.div_eq_of_lt (by omega)];rfl) (w 7 (by decide)) hlt (by decide);have s6:=pz (b:=2 ^ 48) s7 (w 6 (by decide)) hlt (by decide);have s5:=pz (b:=2 ^ 40) s6 (w 5 (by decide)) hlt (by decide);have s4:=pz (b:=2 ^ 32) s5 (w 4 (by decide)) hlt (by decide);have s3:=pz (b:=2 ^ 24) s4 (w 3 (by decide)) hlt (by decide);have s2:=pz (b:=2 ^ 16) s3 (w 2 (by decide)) hlt (by decide);have s1:=pz (b:=2 ^ 8) s2 (w 1 (by decide)) hlt (by decide);have s0:=pz (b:=1) s1 (w 0 (by decide)) hlt (by decide);have e:(nmS 0#64 (oG n)).toNat=N / 1:=s0;unfold nmV;rw [BitVec.toInt_eq_toNat_cond,e];split <;> omega
theorem rV {a b:Int}(h:by8 a=by8 b):a % 256=b % 256:=by
 have:=congrArg (λc:By=> (c.toNat:Int)) h;simp only [lJ] at this;exact this
theorem NC:∀{l m:List Int},(∀v∈l,I64 v)->(∀v∈m,I64 v)->l.flatMap oG=m.flatMap oG->l=m
 | [],[],_,_,_=> rfl
 | [],b::m,_,_,h=> by have:=congrArg List.length h;rw [oz,oz] at this;simp at this
 | a::l,[],_,_,h=> by have:=congrArg List.length h;rw [oz,oz] at this;simp at this
 | a::l,b::m,hl,hm,h=> by
  rw [zaH,zaH] at h;obtain⟨h1,h2⟩:=List.append_inj h rfl;have h3:=congrArg nmV h1;rw [JH (hl a (by simp)),JH (hm b (by simp))] at h3;rw [h3,NC (λv hv=> hl v (by simp [hv])) (λv hv=> hm v (by simp [hv])) h2]
theorem pack_inj {p q:Pkt}(hp:p.fit)(hq:q.fit)(h:pU p=pU q):p=q:=by
 unfold pU iV at h;have hlen:(dL p).length=(dL q).length:=by
  have:=congrArg List.length h;simp only [zaq,zak,zat] at this;omega
 obtain⟨h1,_⟩:=List.append_inj h hlen;unfold dL at h1;obtain⟨h2,h3⟩:=List.append_inj h1 rfl;have hd:=NC hp.num hq.num h3;have a:=hp.ok;have b:=hq.ok;simp only [Pkt.ok,zaj,decide_eq_true_eq] at a b;simp only [zbW,and_true] at h2;obtain⟨e1,e2,e3,e4,e5,e6,e7,e8,e9,_⟩:=h2;have i1:=rV e1;have i2:=rV e2;have i3:=rV e3;have i4:=rV e4;have i5:=rV e5;have i6:=rV e6;have i7:=rV e7;have i8:=rV e8;have i9:=rV e9;rw [zbZ _ (by decide),zbZ _ (by decide)] at i4;rcases p with⟨p1,p2,p3,p4,p5,p6,p7,p8,p9⟩
 rcases q with⟨q1,q2,q3,q4,q5,q6,q7,q8,q9⟩
 simp only at*;have f8:p8=q8:=by
  cases p8 <;> cases q8 <;> first | rfl | (simp at i9)
 subst hd;subst f8;have:p1=q1/\p2=q2/\p3=q3/\p4=q4/\p5=q5/\p6=q6/\p7=q7:=by omega
 obtain⟨rfl,rfl,rfl,rfl,rfl,rfl,rfl⟩:=this;rfl
end
end Go.Proofs.YthmoogcacpmjiaaGreat
