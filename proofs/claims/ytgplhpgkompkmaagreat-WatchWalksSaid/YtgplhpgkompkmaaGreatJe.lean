/-
  Own work: an interpreter over named blocks, its soundness, and what the functions of this seat compute (part 5 of 12).
  Conditions: those of the statement alone.
-/
import Derived.Test.YtgplhpgkompkmaaGreatJd
set_option linter.all false
set_option linter.unusedSectionVars false
set_option linter.unusedVariables false
set_option linter.unusedSimpArgs false
namespace Go.Proofs.YtgplhpgkompkmaaGreat
noncomputable section
def yN(o:Option Nat):Int:=match o with
 |some i=>(i:Int)
 |none=>-1
def mQ {α:Type}{p:α->Bool}:∀(l:List α) (i:Nat),(∀j a,j<i->l[j]?=some a->p a=false)->l.findIdx? p=((l.drop i).findIdx? p).map (· +i)
 |l,0,_=>by cases h:l.findIdx? p <;> simp[h]
 |[],i+1,_=>by simp
 |a::l,i+1,h=>by
  have d:=h 0 a V rfl;rw[zcu,d,List.drop_succ_cons,mQ l i λj b e hb=>h (j+1) b V hb];simp only[zal,if_false,Option.map_map]
  congr 1
def UN(H:ah){α:Type}{enc:α->List AV}(v:∀a,(enc a).length=3){x f:AV}{l:List α}(m:aH H x 3 l.length (l.flatMap enc))(F:l.length<1000000000)(p:α->Bool)
  (w:∀a∈l,qo Tryz.prog cl f [.agg (enc a)] H=some (B (p a),H)):cl 158 [x,f] H=some (I (yN (l.findIdx? p)),H):=by
 have y:=m.lnS;have z:∀i a,l[i]?=some a->lda 3 (eP x i) H=some (.agg (enc a),H):=λi a hi=>lX v m hi;refine bn rfl rfl (apu _ _ _ _ ?_);have key:∀k i,i+k=l.length->(∀j a,j<i->l[j]?=some a->p a=false)->Fp cl [x,f,I l.length,I i] H=some (I (yN (l.findIdx? p)),H):=by
  intro k
  induction k with
  |zero=>
   intro i hi g;have e:¬(i:Int)<l.length:=V
   have n:l.findIdx? p=none:=by rw[mQ l i g,zaP V];rfl
   rw[WW];simp only[Int.reduceNeg,xq_,e,n,yN]
  |succ k A=>
   intro i hi g;have e:(i:Int)<l.length:=V
   have o:=m.ix (k:=.i64) (i:=(i:Int)) V e;obtain⟨a,ha⟩:∃a,l[i]?=some a:=⟨_,zab V⟩
   have u:=z i a ha;have h:=w a (zas ha);rw[zam]at o;rw[WW];cases d:p a with
   |true=>
    have n:l.findIdx? p=some i:=by
     rw[mQ l i g,zaT V,zcu];rw[zab V]at ha;simp only[zaa]at ha;rw[ha,d];simp
    rw[d]at h;simp only[Int.reduceNeg,xq_,e,n,o,u,h,yN]
   |false=>
    rw[d]at h;have C:(i:Int)+1=((i+1:Nat):Int):=V
    have D:=wrap_i64 (a:=((i+1:Nat):Int)) V V;have:=A (i+1) V λj b E hb=>by
     by_cases q:j=i
     ·subst q;rw[ha]at hb;cases hb;exact d
     ·exact g j b V hb
    simp only[Int.reduceNeg,xq_,e,o,u,h,bI,C,D,this]
 have:=key l.length 0 V (λj a E=>V);simp only[xq_,aiy,y];exact this
def Ej(H:ah){α:Type}{enc:α->List AV}(v:∀a,(enc a).length=6){x f:AV}{l:List α}(m:aH H x 6 l.length (l.flatMap enc))(F:l.length<1000000000)(p:α->Bool)
  (w:∀a∈l,qo Tryz.prog cl f [.agg (enc a)] H=some (B (p a),H)):cl 125 [x,f] H=some (I (yN (l.findIdx? p)),H):=by
 have y:=m.lnS;have z:∀i a,l[i]?=some a->lda 6 (eP x i) H=some (.agg (enc a),H):=λi a hi=>lX v m hi;refine bn rfl rfl (aoO _ _ _ _ ?_);have key:∀k i,i+k=l.length->(∀j a,j<i->l[j]?=some a->p a=false)->Fa cl [x,f,I l.length,I i] H=some (I (yN (l.findIdx? p)),H):=by
  intro k
  induction k with
  |zero=>
   intro i hi g;have e:¬(i:Int)<l.length:=V
   have n:l.findIdx? p=none:=by rw[mQ l i g,zaP V];rfl
   rw[WI];simp only[Int.reduceNeg,xq_,e,n,yN]
  |succ k A=>
   intro i hi g;have e:(i:Int)<l.length:=V
   have o:=m.ix (k:=.i64) (i:=(i:Int)) V e;obtain⟨a,ha⟩:∃a,l[i]?=some a:=⟨_,zab V⟩
   have u:=z i a ha;have h:=w a (zas ha);rw[zam]at o;rw[WI];cases d:p a with
   |true=>
    have n:l.findIdx? p=some i:=by
     rw[mQ l i g,zaT V,zcu];rw[zab V]at ha;simp only[zaa]at ha;rw[ha,d];simp
    rw[d]at h;simp only[Int.reduceNeg,xq_,e,n,o,u,h,yN]
   |false=>
    rw[d]at h;have C:(i:Int)+1=((i+1:Nat):Int):=V
    have D:=wrap_i64 (a:=((i+1:Nat):Int)) V V;have:=A (i+1) V λj b E hb=>by
     by_cases q:j=i
     ·subst q;rw[ha]at hb;cases hb;exact d
     ·exact g j b V hb
    simp only[Int.reduceNeg,xq_,e,o,u,h,bI,C,D,this]
 have:=key l.length 0 V (λj a E=>V);simp only[xq_,ah1,y];exact this
def afr(H:ah)(c:Cfg)(h:c.ok=true)(o:Opn):cl 109 [.agg c.av,.agg o.av] H=some (B (c.right o),H):=by
 refine bg rfl rfl (aoB _ _ _ _) ?_ fC;have e:=λH=>I5 H c h o.addr;have j:c.right o=(decide (1<=o.aU) && decide (o.aU<=4) && !decide (c.bW o.addr=-1) && (decide (o.value=0) || decide (o.aU=2) || decide (o.aU=3))):=by simp[Cfg.right]
 rw[j];by_cases a:1<=o.aU;rotate_left
 ·simp only[Nat.reduceLT,Int.reduceNeg,xq_,hq_,Ed,aC,Opn.av,e,a,zaL]
 by_cases b:o.aU<=4;rotate_left
 ·simp only[Nat.reduceLT,Int.reduceNeg,xq_,hq_,Ed,aC,Opn.av,e,a,b,zaJ,zaL]
 by_cases d:c.bW o.addr=-1
 ·simp only[Nat.reduceLT,Int.reduceNeg,xq_,hq_,Ed,aC,Opn.av,e,a,b,d,zaJ,zaL,zae]
 by_cases f:o.value=0
 ·simp only[Nat.reduceLT,Int.reduceNeg,xq_,hq_,Ed,aC,Opn.av,e,a,b,d,f,zai,zcb]
 by_cases g:o.aU=2
 ·simp only[Nat.reduceLT,Int.reduceLE,Int.reduceEq,Int.reduceNeg,xq_,hq_,Ed,aC,Opn.av,e,d,f,g,zai,zcb,Bool.or_true]
 by_cases i:o.aU=3
 ·simp only[Nat.reduceLT,Int.reduceLE,Int.reduceEq,Int.reduceNeg,xq_,hq_,Ed,aC,Opn.av,e,d,f,i,zai,Bool.or_true]
 ·simp only[Nat.reduceLT,Int.reduceNeg,xq_,hq_,Ed,aC,Opn.av,e,a,b,d,f,g,i,zai,zdK,zb3]
def UO(H:ah)(c:Cfg)(h:c.ok=true)(o:Opn){r ty:Nat}(b:r<H.next)(d:H.get r=.blk 0 ty c.av):cl 108 [.agg o.av,.ref r 0 0] H=some (B (!c.right o),H):=by
 refine bg rfl rfl (aoA _ _ _ _) ?_ fC;have e:=λH=>afr H c h o;have g:lda 8 (.ref r 0 0) (H.guard.new (.blk 0 61 o.av))=some (.agg (c.av.take 8),_):=iP (off:=0) (n:=8) (by rw[bC (by rw[xY];exact b),ad6];exact d) (zac 8);simp only[Nat.reduceLT,xq_,hq_,ahP,aC (oz o),g,e]
def I7 {o:Option Nat}:decide (0<=yN o)=o.isSome:=by
 cases o with
 |none=>rfl
 |some i=>simp[yN]
def acg(H:ah)(c:Cfg)(h:c.ok=true){v:AV}{l:List Opn}(hv:aH H v 3 l.length (l.flatMap Opn.av))(hl:l.length<1000000000){r ty:Nat}(hr:r<H.next)(hg:H.get r=.blk 0 ty c.av):cl 106 [v,.ref r 0 0] H=some (B (!(decide (l.length<=24) && l.all c.right)),H):=by
 refine bg rfl rfl (aoy _ _ _ _) ?_ fC;have e1:=hv.guard.lnS;have e2:=UN H.guard (enc:=Opn.av) eU (f:=.fn (.func 108) [] [.ref r 0 0]) hv.guard hl (λo=>!c.right o) (λo _=>by
  rw[uj (by kernel_rfl)];exact UO H.guard c h o hr hg)
 have e3:cl 107 [v,.fn (.func 108) [] [.ref r 0 0]] H.guard=some (B (l.findIdx? λo=>!c.right o).isSome,H.guard):=by
  refine bn rfl rfl (aoz _ _ _ _ ?_);simp only[xq_,ahO,e2,I7]
 have e4:(l.findIdx? λo=>!c.right o).isSome=!l.all c.right:=by
  rw[zdz,List.not_all_eq_any_not]
 by_cases h0:l.length<=24
 ·have h1:¬(24:Int)<l.length:=by omega
  simp only[xq_,abp,e1,e3,e4,h0,h1,zaJ]
 ·have h1:(24:Int)<l.length:=by omega
  simp only[xq_,abp,e1,h0,h1,zaL,zai]
def UQ(H:ah)(x:AV)(ps:List (List Opn)):Prop:=
 ∃cells:List AV,aH H x 1 ps.length cells/\∀(i:Nat) v l,cells[i]?=some v->ps[i]?=some l->aH H v 3 l.length (l.flatMap Opn.av)/\(l=[]->v=zN)
def UQ.iQ {H H':ah}{x:AV}{ps:List (List Opn)}(h:UQ H x ps)(e:H.next<=H'.next)(g:∀r,r<H.next->H'.get r=H.get r):UQ H' x ps:=by
 obtain⟨cells,k,j⟩:=h;exact⟨cells,k.iQ e λr _ d=>g r d,λi v l a b=>⟨(j i v l a b).1.iQ e λr _ d=>g r d,(j i v l a b).2⟩⟩
def Bh {n:Nat}{p:Nat->Bool}:∀i,i<=n->(∀j,j<i->p j=false)->(List.range n).findIdx? p=((List.range' i (n-i)).findIdx? p).map (· +i):=by
 intro i hi b;rw[mQ (List.range n) i λj a d ha=>by
  have:a=j:=by
   rw[zbi V]at ha
   simpa using ha.symm
  rw[this];exact b j d]
 congr 2
 rw[zcF,List.drop_range'];simp
def UR(H:ah){x f:AV}{n:Nat}{cells:List AV}(e:aH H x 1 n cells)(F:n<1000000000)(p:Nat->Bool)
  (w:∀i v,cells[i]?=some v->qo Tryz.prog cl f [v] H=some (B (p i),H)):cl 157 [x,f] H=some (I (yN ((List.range n).findIdx? p)),H):=by
 have y:=e.lnS;have z:cells.length=n:=by have:=e.1;omega
 refine bn rfl rfl (apt _ _ _ _ ?_);have key:∀k i,i+k=n->(∀j,j<i->p j=false)->Fj cl [x,f,I n,I i] H=some (I (yN ((List.range n).findIdx? p)),H):=by
  intro k
  induction k with
  |zero=>
   intro i hi g;have d:¬(i:Int)<n:=V
   have m:(List.range n).findIdx? p=none:=by rw[Bh i V g,show n-i=0 by omega];rfl
   rw[WV];simp only[Int.reduceNeg,xq_,d,m,yN]
  |succ k A=>
   intro i hi g;have d:(i:Int)<n:=V
   have o:=e.ix (k:=.i64) (i:=(i:Int)) V d;obtain⟨v,hv⟩:∃v,cells[i]?=some v:=⟨_,zab V⟩
   have q:=e.ld (i:=i) V;rw[hv]at q;have h:=w i v hv;rw[zam]at o;rw[WV];cases b:p i with
   |true=>
    have m:(List.range n).findIdx? p=some i:=by
     rw[Bh i V g,show n-i=k+1 by omega,zc7,zcu,b];simp
    rw[b]at h;simp only[Int.reduceNeg,xq_,d,m,o,q,h,yN]
   |false=>
    rw[b]at h;have C:(i:Int)+1=((i+1:Nat):Int):=V
    have D:=wrap_i64 (a:=((i+1:Nat):Int)) V V;have:=A (i+1) V λj E=>by
     by_cases u:j=i
     ·rw[u];exact b
     ·exact g j V
    simp only[Int.reduceNeg,xq_,d,o,q,h,bI,C,D,this]
 have:=key n 0 V (λj E=>V);simp only[xq_,aiw,y];exact this
def ajk(H:ah)(c:Cfg)(h:c.ok=true){x:AV}{ps:List (List Opn)}(hx:UQ H x ps)(hn:ps.length<1000000000)(hl:∀l∈ps,l.length<1000000000):cl 60 [.agg c.av,x] H=some (I (if c.sO ps then 0 else 1),H):=by
 refine bg rfl rfl (atx _ _ _ _) ?_ fC;have hx1:=hx.iQ (H':=H.guard.new (.blk 0 31 c.av)) (by rw[eF,xY];omega) λr hr=>by rw[bC (by rw[xY];exact hr),ad6]
 obtain⟨cells,x1,x2⟩:=hx1;have hcl:cells.length=ps.length:=by have:=x1.1;omega
 let bad:List Opn->Bool:=λl=>!(decide (l.length<=24) && l.all c.right)
 have e2:=UR (H.guard.new (.blk 0 31 c.av)) (f:=.fn (.func 106) [] [.ref H.next 0 0]) x1 hn (λi=>bad (ps.getD i [])) (λi v hv=>by
  have hi:i<ps.length:=by rw[<-hcl];exact(zaf.1 hv).1
  have hpi:ps[i]?=some (ps.getD i []):=by simp[List.getD,zab hi]
  rw[uj (by kernel_rfl)];exact acg _ c h (x2 i v _ hv hpi).1 (hl _ (zas hpi)) (by rw[eF,xY];omega) (aP (by rw[xY])))
 have e4:((List.range ps.length).findIdx? λi=>bad (ps.getD i [])).isSome=!(ps.all λl=>decide (l.length<=24) && l.all c.right):=by
  rw[zdz,List.not_all_eq_any_not,Bool.eq_iff_iff,zc6,zc6];constructor
  ·rintro⟨i,hi,hb⟩;have hi:i<ps.length:=za0.1 hi;exact⟨ps.getD i [],zas (i:=i) (by simp[List.getD,zab hi]),hb⟩
  ·rintro⟨l,hm,hb⟩;obtain⟨i,hi,he⟩:=zdB hm;have hg:ps.getD i []=l:=by simp[List.getD,zab hi,he]
   exact⟨i,za0.2 hi,by rw[hg];exact hb⟩
 have e3:cl 105 [x,.fn (.func 106) [] [.ref H.next 0 0]] (H.guard.new (.blk 0 31 c.av))=some (B (!(ps.all λl=>decide (l.length<=24) && l.all c.right)),H.guard.new (.blk 0 31 c.av)):=by
  refine bn rfl rfl (aox _ _ _ _ ?_);simp only[xq_,ahN,e2,I7,e4]
 have l0:c.av[0]?=some (I c.aG):=rfl;have e5:=x1.lnS;cases hb:ps.all λl=>decide (l.length<=24) && l.all c.right with
 |false=>simp only[Nat.reduceLT,xq_,hq_,ae9,aC (eu c),e3,hb,zai,Cfg.sO,zaL]
 |true=>
  by_cases hc:(ps.length:Int)=c.aG
  ·simp only[Nat.reduceLT,xq_,hq_,ae9,aC (eu c),e3,e5,hb,l0,zae,Cfg.sO,hc]
  ·simp only[Nat.reduceLT,xq_,hq_,ae9,aC (eu c),e3,e5,hb,l0,zae,zai,Cfg.sO,zaJ,hc]
def OC {c:Cfg}(h:c.ok=true){ak:Int}(h0:0<=ak)(b:ak<c.aO):c.first ak≠[]:=by
 have B:=qP h;unfold Cfg.first
 rw[if_neg V];intro e;have:=congrArg List.length e;simp only[zaz,zcB,zan]at this;have:=B.aV;omega
def UU {c:Cfg}(h:c.ok=true){ak:Int}(h0:0<=ak)(k:ak<c.aO){from_:Nat}(m:(from_:Int)=min (ak*c.aV) c.init.length):
  aN (List.replicate c.aV.toNat zI) 0 (((c.init.map I).drop from_).take (min (c.init.length-from_) c.aV.toNat))=(c.first ak).map I:=by
 have B:=qP h;have hw:=B.aV;have j:0<=ak*c.aV:=zca h0 V;unfold Cfg.first
 rw[if_neg V]
 apply zbc
 intro i;have b:(((c.init.map I).drop from_).take (min (c.init.length-from_) c.aV.toNat)).length=min (c.init.length-from_) c.aV.toNat:=by
  rw[zau,zaR,zaz];omega
 rw[nD (by rw[b,zcw];omega),b];rcases zaU i c.aV.toNat with hi|hi
 ·simp only[zaw,zbi hi,zaj];by_cases hc:i<c.init.length-from_
  ·rw[if_pos V,Nat.sub_zero,zaC,if_pos V,zaH,zaw];have e:from_=(ak*c.aV).toNat:=V
   rw[e];have d:(ak*c.aV).toNat+i<c.init.length:=V
   simp[List.getD,zab d]
  ·rw[if_neg V,zbB,if_pos hi];have g:c.init.length<=(ak*c.aV).toNat+i:=V
   simp[List.getD,zaI g]
 ·rw[if_neg V,zaI (by simp;omega),zaI (by simp;omega)]
def Xr(H:ah)(c:Cfg)(h:c.ok=true)(ak:Int)(h0:0<=ak)(h1:ak<c.aO):cl 204 [.agg c.av,I ak] H=some (dat (c.first ak),H):=by
 have B:=qP h;have hw:=B.aV;have hlw:0<=ak*c.aV:=zca h0 (by omega);have avS:ak*c.aV<=8*4:=zbV (by have:=B.aO;omega) hw.2 (by omega) (by omega);have w:=wrap_i64 (a:=ak*c.aV) (by omega) (by omega);have l1:c.av[1]?=some (I c.aO):=rfl;have l2:c.av[2]?=some (I c.aV):=rfl;have l7:c.av[7]?=some (dat c.init):=rfl;let H1:=(H.guard.new (.blk 0 31 c.av)).new (.blk 0 3 (dK [zI] c.aV.toNat));have e1:=aaL (e:=3) (m:=1) (by_:=8) (z:=[zI]) (n:=c.aV) (H:=H.guard.new (.blk 0 31 c.av)) rfl rfl (by omega) (by omega) (by decide);have e2:=λH=>(fH H c.init).lnS;have hm:0<=min (ak*c.aV) (c.init.length:Int):=by omega
 obtain⟨y,e3,e4⟩:=(fH H1 c.init).from_ (k:=.i64) (lo:=min (ak*c.aV) (c.init.length:Int)) hm (by omega);obtain⟨H2,e5,e6,e7,e8,e9⟩:=anr (H:=H1) (r:=H.next+1) (g:=0) (off:=0) (m:=1) (len:=c.aV.toNat) (cap:=c.aV.toNat) (ex:=true) (ty:=3) (aP (by rw[eF,xY])) (by show H.next<=_;omega) (by rw[kZ];simp) e4 (Af (yt _) _);refine iy rfl rfl (ap6 _ _ _ _ (r:=(.sl (H.next+1) 0 0 1 c.aV.toNat c.aV.toNat true,H2)) ?_) ?_
 ·have n0:¬ak<0:=by omega
  have n1:¬c.aO<=ak:=by omega
  simp only[eF,xY]at e1;simp only[Nat.reduceLT,xq_,hq_,ai3,aC (eu c),n0,n1,l1,l2,l7,e1,e2,iM,w,aam,e3,e5,H1]
 ·rw[qH (OC h h0 h1)];have hf:=UU h h0 h1 (from_:=(min (ak*c.aV) (c.init.length:Int)).toNat) (by omega);rw[kZ,zby,zby,hf]at e6;have hlen:(c.first ak).length=c.aV.toNat:=by
   unfold Cfg.first
   rw[if_neg (by omega)];simp
  rw[hlen];refine kS (by omega) (cells:=(c.first ak).map I) ?_ (iJ _ λx hx=>rU _ x hx _ _);simp only[cZ,e6];rw[if_pos ⟨trivial,by simp[hlen]⟩,zaS,zay (by simp[hlen])]
def afs(c:Cfg)(dR:Rows)(n:Int)(r:Row):(EF c dR).set 8 (.map .i64 (MF (Il (λr=>.agg r.av) dR) n (.agg r.av)))=EF c (mO dR n r):=by
 have:=CQ (f:=λr:Row=>AV.agg r.av) dR n r;rw[this];rfl
def ach(H:ah)(hb:H.base<=H.next)(c:Cfg)(h:c.ok=true)(me:Int):∃H' q,cl 160 [.agg c.av,I me] H=some (.ref q 0 0,H')/\Made H H' (upd nP q (EF c (c.jF me c.aO.toNat))):=by
 have B:=qP h;let Hb:=H.new (.blk 0 31 c.av);let Hm:=Hb.new (.map .i64 []);let H0:=Hm.new (.blk 0 277 (c.av++[.mp (H.next+1)]));have M0:Made Hb H0 (upd nP (H.next+2) (EF c [])):=by
  refine Q9 (H':=Hm) (by simp only[Hb,eF];omega) (by simp only[Hm,Hb,eF]) rfl (λr hr=>bC hr) (by rw[zbf,eu];rfl) (by simp[EF]) (λr=>if r=H.next+1 then some 8 else none) λi cc x hc hx=>?_;by_cases hi:i<8
  ·left;simp only[EF]at hc;rw[zaG (by simp[Cfg.av];omega),zaw]at hc;rw[zaG (by simp[Cfg.av];omega)]at hx;rw[hx]at hc;exact(zaW hc).symm
  ·have:i=8:=by
    have:=(zaf.1 hx).1;simp[Cfg.av]at this;omega
   subst this;right;right;cases hc;cases hx;exact⟨H.next+1,.i64,rfl,by simp only[Hb,eF];omega,by omega,by simp,aP (by simp only[Hb,eF]),.inl rfl⟩
 have key:∀k i,i+k=c.aO.toNat->∀Hi,Made Hb Hi (upd nP (H.next+2) (EF c (c.jF me i)))->∃H',Fq cl [I me,.ref H.next 0 0,.ref (H.next+2) 0 0,I c.aO,I i] Hi=some (.ref (H.next+2) 0 0,H')/\Made Hb H' (upd nP (H.next+2) (EF c (c.jF me c.aO.toNat))):=by
  intro k
  induction k with
  |zero=>
   intro i hi Hi M;have h1:¬(i:Int)<c.aO:=by omega
   rw[WX];refine⟨Hi,?_,by rw[show c.aO.toNat=i by omega];exact M⟩;simp only[Int.reduceNeg,xq_,h1]
  |succ k ih=>
   intro i hi Hi M;have h1:(i:Int)<c.aO:=by omega
   have hbx:Hi.get H.next=.blk 0 31 c.av:=by rw[M.same _ (by simp only[Hb,eF];omega)];exact aP rfl
   have hbn:H.next<Hi.next:=zax (by simp only[Hb,eF];omega) M.next
   have e1:lda 8 (.ref H.next 0 0) Hi=some (.agg c.av,Hi):=(iP (off:=0) (n:=8) hbx (zac 8)).trans rfl;have e2:=xB Hi c h i;have h6:(i:Int)+1=((i+1:Nat):Int):=by omega
   have h7:=wrap_i64 (a:=((i+1:Nat):Int)) (by have:=B.aO;omega) (by have:=B.aO;omega);have tail:∀Hj,Made Hb Hj (upd nP (H.next+2) (EF c (c.jF me (i+1))))->∃H',Fv cl (I me) (.ref H.next 0 0) (.ref (H.next+2) 0 0) (I c.aO) (I i) Hj=some (.ref (H.next+2) 0 0,H')/\Made Hb H' (upd nP (H.next+2) (EF c (c.jF me c.aO.toNat))):=by
    intro Hj Mj;obtain⟨H',a1,a2⟩:=ih (i+1) (by omega) Hj Mj;refine⟨H',?_,a2⟩;simp only[xq_,Fv,bI,h6,h7,a1]
   rw[WX];by_cases hm:c.aZ i=me
   ·obtain⟨r,f1,f2,f3,f4⟩:=M.good.map (q:=H.next+2) aT (i:=8) rfl;obtain⟨H',g1,g2,g3,g4⟩:=(f4 (by rw[M.base];simp only[Hb,jh,eF];omega)).1 i (.agg (Row.av ⟨0,-1,c.first i⟩));simp only[Row.av]at g1;have e3:=Xr Hi.guard c h i (by omega) h1;have Mj:Made Hb H' (upd nP (H.next+2) (EF c (c.jF me (i+1)))):=by
     refine(M.step g2 g3).as ?_;rw[pz,afs];simp only[Cfg.jF,hm,if_true]
    obtain⟨H2,t1,t2⟩:=tail H' Mj;refine⟨H2,?_,t2⟩;simp only[Int.reduceNeg,Nat.reduceAdd,aN,xq_,hq_,h1,e1,e2,hm,f1,e3,asB,jg,fK,amT,g1,t1]
   ·have hm':¬(c.aZ i=me):=hm;obtain⟨H2,t1,t2⟩:=tail Hi (M.as (by simp only[Cfg.jF,hm,if_false]));refine⟨H2,?_,t2⟩;simp only[Int.reduceNeg,xq_,h1,e1,e2,hm,t1]
 obtain⟨H',a1,a2⟩:=key c.aO.toNat 0 (by omega) H0 M0;refine⟨H',H.next+2,bn rfl rfl (apv _ _ _ _ (r:=(_,H')) ?_),a2.wz⟩;have l1:c.av[1]?=some (I c.aO):=rfl;have e:∀r,bd 277 [(0,.agg c.av),(1,.mp r)]=some (.agg (c.av++[.mp r])):=λr=>by
  simp only[xq_,anc,jg,fK,ahc,Cfg.av,eH];rfl
 have e2:∀r,(c.av++[AV.mp r]).all AV.aS=true:=λr=>by rw[zbf,eu];rfl
 simp only[Nat.reduceLT,xq_,hq_,aiB,aC (eu c),e,aC (e2 _),l1];exact a1
def jR {b n:Nat}{H1:ah}{g g':bF}{q:Nat}{cs:List Cell}(G:Good b H1 g)(h:g q=some cs)(d:H1.next=n):cup n g g' q=some cs:=by
 unfold cup;rw[if_pos (by have:=G.lt h;omega),h]
def lT {b n:Nat}{H1:ah}{g g':bF}{q:Nat}{cs:List Cell}(G:Good b H1 g')(h:g' q=some cs)(d:n<=b):cup n g g' q=some cs:=by
 unfold cup;rw[if_neg (by have:=G.le h;omega),h]
def drawn {H H':ah}{x:Option (AV × ah)}{v:AV}{g:bF}(e:x=some (v,H'))(M:Made H.guard H' g):∃b,unG H x=some (v,b)/\Made H b g:=
 ⟨_,by rw[e];rfl,M.afl⟩
def gX {H:ah}{r:Nat}{ty:TypeId}{c:Cfg}(h:H.get r=.blk 0 ty c.av):lda 8 (.ref r 0 0) H=some (.agg c.av,H):=(iP (off:=0) (n:=8) h (zac 8)).trans rfl
def aH.aci {P:Program}{t e:TypeId}(h:P.underlying t=some (.slice e)){H:ah}{x:AV}{m n:Nat}{cells:List AV}(d:aH H x m n cells)(i:n≠0):pY P .eql t x (.s (.slice none 0 0))=some (B false):=by
 obtain⟨_,d⟩:=d;cases x with
 |sl r g o m n c ex=>exact CO h
 |vs n m l=>exact uh h
 |s v=>
  cases v with
  |slice a b c=>
   cases a with
   |none=>exact absurd d.2.2 i
   |some a=>exact d.elim
  |_=>exact d.elim
 |_=>exact d.elim
def EG(d t:Nat)(c:Cfg)(me:Int):List Cell:=[.av (.ref d 0 0),.av (.ref t 0 0)]++c.av.map .av++[.av (I me)]
def nR(g:bF)(q d t:Nat)(c:Cfg)(me:Int)(h:Home):Prop:=g q=some (EG d t c me)/\g d=some (EF c h.dR)/\g t=some (iT h.bf)
def Rf {xs:List AV}{cs:List Cell}(h:cs=xs.map .av):∀(i:Nat) (c:Cell) (x:AV),cs[i]?=some c->xs[i]?=some x->c=.av x∨(x=zN/\∃m,c=.seq m []):=by
 subst h;intro i c x hc b;rw[zaw,b]at hc;exact .inl (zaW hc).symm
def ak1(H:ah)(hb:H.base<=H.next)(c:Cfg)(h:c.ok=true)(me:Int):∃H' q d t g',cl 114 [.agg c.av,I me] H=some (.ref q 0 0,H')/\Made H H' g'/\nR g' q d t c me (.new c me):=by
 let H1:=H.new (.blk 0 31 c.av);obtain⟨H2',d,e1,M1⟩:=ach H1.guard (zac _) c h me;obtain⟨H2,e1,M1⟩:=drawn e1 M1;obtain⟨H3',t,e2,M2⟩:=afo H2.guard;obtain⟨H3,e2,M2⟩:=drawn e2 M2;let xs:List AV:=[.ref d 0 0,.ref t 0 0]++c.av++[I me]
 have hall:xs.all AV.aS=true:=by
  simp only[xs,zbf,eu];rfl
 have M3:Made H3 (H3.new (.blk 0 166 xs)) (upd nP H3.next (EG d t c me)):=kP hall (by simp[xs,EG]) (Rf (by simp[xs,EG]));have g1:H1.get H.next=.blk 0 31 c.av:=aP rfl
 have l1:H.next<H1.next:=by simp only[H1,eF];omega
 have b1:=gX g1;have g2:H2.get H.next=.blk 0 31 c.av:=by rw[M1.same _ l1,g1]
 have g3:H3.get H.next=.blk 0 31 c.av:=by rw[M2.same _ (zax l1 M1.next),g2]
 have b3:=gX g3;refine⟨_,H3.next,d,t,_,bn rfl rfl (aoH _ _ _ _ (r:=(_,H3.new (.blk 0 166 xs))) ?_),((M1.trans M2).trans M3).wz,?_⟩
 ·have e:bd 166 [(0,.ref d 0 0),(1,.ref t 0 0),(2,.agg c.av),(3,I me)]=some (.agg xs):=by
   simp only[xq_,am1,jg,fK,ag0,Cfg.av,eH];rfl
  simp only[H1]at e1 b1;simp only[Nat.reduceLT,xq_,hq_,ahU,aC (eu c),b1,e1,e2,b3,e,aC hall]
 ·refine⟨lT M3.good aT (zac _),jR (M1.good.merge M2) (jR M1.good aT rfl) rfl,jR (M1.good.merge M2) (lT M2.good aT (zac _)) rfl⟩
def ak2(H:ah)(l:List Opn)(d:l.length<1000000000){x:AV}(b:aH H x 3 l.length (l.flatMap Opn.av))(h0:l=[]->x=zN):∃H' q,cl 113 [x] H=some (.ref q 0 0,H')/\Made H H' (upd nP q (qU ⟨l,[],false⟩)):=by
 have g:=afp H l d b h0 λh=>b.aci Tryz.underlying62 λe=>h (zaq e);have hc:(vsl 3 Opn.av l).cells=[vsl 3 Opn.av l]:=Ie;refine⟨_,H.next,bn rfl rfl (aoF _ _ _ (r:=(_,H.new (.blk 0 135 [vsl 3 Opn.av l,zN,zB]))) ?_),kP ?_ rfl λi c x hc b=>?_⟩
 ·simp only[Nat.reduceLT,Nat.reduceAdd,aN,xq_,hq_,ahT,g,amV,jg,fK,agW,aC]
 ·simp only[hq_]
 ·match i with
  |0=>left;cases hc;cases b;rfl
  |1=>right;cases hc;cases b;exact⟨rfl,1,rfl⟩
  |2=>left;cases hc;cases b;rfl
  |i+3=>cases hc
def Made.add {H H1 b:ah}{g:bF}{q:Nat}{cs:List Cell}(M:Made H H1 g)(d:Made H1 b (upd nP q cs)):Made H b (upd g q cs):=
 (M.trans d).as ((M.good.aqI (d.lt aT).1).symm)
def OD(a:Nat->Nat)(c:Cfg)(me:Int)(d:bU)(num:Int):List AV:=[.ref (a 1) 0 0,.ref (a 2) 0 0]++c.av++[I me,.ref (a 3) 0 0]++d.av++[I num]
def yO(a:Nat->Nat)(c:Cfg)(me:Int)(d:bU)(num:Int):List Cell:=(OD a c me d num).map .av
def qI(g:bF)(a:Nat->Nat)(c:Cfg)(me:Int)(n:Node):Prop:=
 g (a 0)=some (yO a c me n.aJ n.num)/\g (a 1)=some (dD n.aI)/\g (a 2)=some (qU n.dn)/\nR g (a 3) (a 4) (a 5) c me n.home
def Rh {a:Nat->Nat}{c:Cfg}{me:Int}{d:bU}{num:Int}:(OD a c me d num).all AV.aS=true:=by
 simp only[OD,zbf,eu,bG];rfl
def six(b d e g h i:Nat):Nat->Nat
 |0=>b
 |1=>d
 |2=>e
 |3=>g
 |4=>h
 |_=>i
def ak3(H:ah)(c:Cfg)(h:c.ok=true)(me:Int)(l:List Opn)(hl:l.length<1000000000){x:AV}(hx:aH H x 3 l.length (l.flatMap Opn.av))(h0:l=[]->x=zN):
  ∃H' a g',cl 63 [.agg c.av,I me,x] H=some (.ref (a 0) 0 0,H')/\Made H H' g'/\qI g' a c me (.new c me l):=by
 have Bd:=qP h;let H1:=H.new (.blk 0 31 c.av);obtain⟨H2',q1,e1,M1⟩:=afm H1.guard c.sets c.ways Bd.sets.1 Bd.ways.1;obtain⟨H2,e1,M1⟩:=drawn e1 M1;have hx2:aH H2 x 3 l.length (l.flatMap Opn.av):=(hx.new (.blk 0 31 c.av)).iQ M1.next λr _ hr=>M1.same r hr
 obtain⟨H3',q2,e2,M2⟩:=ak2 H2.guard l hl hx2.guard h0;obtain⟨H3,e2,M2⟩:=drawn e2 M2;obtain⟨H4',q3,q4,q5,g4,e3,M3,I3⟩:=ak1 H3.guard (zac _) c h me;obtain⟨H4,e3,M3⟩:=drawn e3 M3;let a:=six H4.next q1 q2 q3 q4 q5
 let xs:=OD a c me .zero 0;have M4:Made H4 (H4.new (.blk 0 75 xs)) (upd nP H4.next (yO a c me .zero 0)):=kP Rh (by simp[xs,yO]) (Rf rfl);have g1:H1.get H.next=.blk 0 31 c.av:=aP rfl
 have l1:H.next<H1.next:=by simp only[H1,eF];omega
 have l3:H.next<H3.next:=zax l1 (zav M1.next M2.next)
 have b1:=gX g1;have g2:H2.get H.next=.blk 0 31 c.av:=by rw[M1.same _ l1,g1]
 have g3:H3.get H.next=.blk 0 31 c.av:=by rw[M2.same _ (zax l1 M1.next),g2]
 have b3:=gX g3;have G12:=M1.good.merge M2;have aqJ:=G12.merge M3;refine⟨_,a,_,bn rfl rfl (atB _ _ _ _ _ (r:=(_,H4.new (.blk 0 75 xs))) ?_),(((M1.trans M2).trans M3).trans M4).wz,?_⟩
 ·have e:bd 75 [(0,.ref q1 0 0),(1,.ref q2 0 0),(2,.agg c.av),(3,I me),(4,.agg [.ref q3 0 0])]=some (.agg xs):=by
   simp only[xq_,asA,jg,fK,amS,Cfg.av,eH];rfl
  have l3:c.av[3]?=some (I c.sets):=rfl;have l4:c.av[4]?=some (I c.ways):=rfl;have bx:∀r,(AV.ref r 0 0).cells=[.ref r 0 0]:=λ_=>rfl;have eb:∀r,bd 71 [(0,.ref r 0 0)]=some (.agg [.ref r 0 0]):=λr=>by
   simp only[xq_,asz,jg,fK,amQ];rfl
  simp only[H1]at e1 b1;simp only[Nat.reduceLT,xq_,hq_,aoe,aC (eu c),l3,l4,e1,e2,e3,b3,eb,e,aC Rh,xs];rfl
 ·refine⟨lT M4.good aT (zac _),jR aqJ (jR G12 (jR M1.good aT rfl) rfl) rfl,jR aqJ (jR G12 (lT M2.good aT (zac _)) rfl) rfl,?_⟩;obtain⟨i1,i2,i3⟩:=I3;exact⟨jR aqJ (lT M3.good i1 (zac _)) rfl,jR aqJ (lT M3.good i2 (zac _)) rfl,jR aqJ (lT M3.good i3 (zac _)) rfl⟩
def oD(a:Nat->Nat):List AV:=[.ref (a 0) 0 0,.ref (a 1) 0 0,.ref (a 2) 0 0,.ref (a 3) 0 0]
def afu(P:Nat->Nat->Nat)(n:Nat):List Cell:=[.seq 4 ((List.range n).flatMap λi=>oD (P i))]
def wB(g:bF)(a:Nat->Nat)(c:Cfg)(p:Port):Prop:=
 g (a 0)=some (nO p.rq c.out)/\g (a 1)=some (nO p.rin c.inn)/\g (a 2)=some (nO p.an c.out)/\g (a 3)=some (nO p.ain 1)
def UW(P:Nat->Nat->Nat)(n:Nat):Prop:=∀i j s t,i<n->j<n->s<4->t<4->P i s=P j t->i=j/\s=t
def iD(g:bF)(f:Nat)(P:Nat->Nat->Nat)(c:Cfg)(fab:Fab):Prop:=
 g f=some (afu P fab.l.length)/\(∀i p,fab.l[i]?=some p->wB g (P i) c p)/\fab.out=c.out/\fab.inn=c.inn
def aui(b d e g:Nat):Nat->Nat
 |0=>b
 |1=>d
 |2=>e
 |_=>g
def Lp {P b:Nat->Nat->Nat}:∀n,(∀i,i<n->b i=P i)->(List.range n).flatMap (λi=>oD (b i))=(List.range n).flatMap λi=>oD (P i)
 |0,_=>rfl
 |n+1,h=>by
  rw[zbX,zbx,zbx,Lp n λi hi=>h i V];simp only[zaE,zdu,h n V]
def pW(P:Nat->Nat->Nat)(n:Nat):((List.range n).flatMap λi=>oD (P i)).length=n*4:=by
 rw[dF (m:=4) (λ_=>rfl),zcB]
def wB.ext {g g':bF}{a:Nat->Nat}{c:Cfg}{p:Port}(h:wB g a c p)(b:∀s,s<4->g' (a s)=g (a s)):wB g' a c p:=by
 obtain⟨d,e,i,j⟩:=h;exact⟨by rw[b 0 V,d],by rw[b 1 V,e],by rw[b 2 V,i],by rw[b 3 V,j]⟩
def wB.some {g:bF}{a:Nat->Nat}{c:Cfg}{p:Port}(h:wB g a c p){s:Nat}(b:s<4):∃l r,g (a s)=some (nO l r):=by
 obtain⟨d,e,i,j⟩:=h
 match s,b with
 |0,_=>exact⟨_,_,d⟩
 |1,_=>exact⟨_,_,e⟩
 |2,_=>exact⟨_,_,i⟩
 |3,_=>exact⟨_,_,j⟩
def acj(H:ah)(hb:H.base<=H.next)(c:Cfg)(h:c.ok=true):∃H' f P g',cl 61 [.agg c.av] H=some (.ref f 0 0,H')/\Made H H' g'/\iD g' f P c (.new c)/\UW P c.aG.toNat:=by
 have Bd:=qP h;let H1:=H.new (.blk 0 31 c.av);let H2:=H1.new (.blk 0 145 [zN]);let f:=H.next+1
 have M0:Made H1 H2 (upd nP f (afu (λ_ _=>0) 0)):=kP rfl rfl λi c x hc hx=>by
  match i with
  |0=>right;cases hc;cases hx;exact⟨rfl,4,rfl⟩
  |i+1=>cases hc
 have l0:c.av[0]?=some (I c.aG):=rfl;have l5:c.av[5]?=some (I c.out):=rfl;have l6:c.av[6]?=some (I c.inn):=rfl;have key:∀k i,i+k=c.aG.toNat->∀Hi gi P,Made H1 Hi gi->gi f=some (afu P i)->(∀j,j<i->wB gi (P j) c .zero)->UW P i->
   ∃H' g' P',Oc cl [.ref H.next 0 0,.ref f 0 0,I c.aG,I i] Hi=some (.ref f 0 0,H')/\Made H1 H' g'/\g' f=some (afu P' c.aG.toNat)/\(∀j,j<c.aG.toNat->wB g' (P' j) c .zero)/\UW P' c.aG.toNat:=by
  intro k
  induction k with
  |zero=>
   intro i hi Hi gi P M hf hp hj;have h1:¬(i:Int)<c.aG:=by omega
   have hi':c.aG.toNat=i:=by omega
   rw[abj];refine⟨Hi,gi,P,?_,M,by rw[hi'];exact hf,by rw[hi'];exact hp,by rw[hi'];exact hj⟩;simp only[xq_,h1]
  |succ k ih=>
   intro i hi Hi gi P M hf hp hj;have h1:(i:Int)<c.aG:=by omega
   have h6:(i:Int)+1=((i+1:Nat):Int):=by omega
   have h7:=wrap_i64 (a:=((i+1:Nat):Int)) (by have:=Bd.aG;omega) (by have:=Bd.aG;omega);have lt1:H.next<H1.next:=by simp only[H1,eF];omega
   have bx:∀H':ah,(∀r,r<H1.next->H'.get r=H1.get r)->H'.get H.next=.blk 0 31 c.av:=λH' hs=>by rw[hs _ lt1];exact aP rfl
   have ld5:∀H':ah,(∀r,r<H1.next->H'.get r=H1.get r)->ld (.ref H.next 0 5) H'=some (I c.out,H'):=λH' hs=>by rw[dU (bx H' hs),l5];rfl
   have ld6:∀H':ah,(∀r,r<H1.next->H'.get r=H1.get r)->ld (.ref H.next 0 6) H'=some (I c.inn,H'):=λH' hs=>by rw[dU (bx H' hs),l6];rfl
   obtain⟨x,hx,cx⟩:=M.good.seq hf (i:=0) rfl;obtain⟨Ha',q1,a1,Ma⟩:=acd Hi.guard c.out (by have:=Bd.out;omega);obtain⟨Ha,a1,Ma⟩:=drawn a1 Ma;have Na:=M.add Ma;obtain⟨Hb',q2,a2,Mb⟩:=Xo Ha.guard c.inn (by have:=Bd.inn;omega);obtain⟨Hb,a2,Mb⟩:=drawn a2 Mb;have Nb:=Na.add Mb;obtain⟨Hc',q3,a3,Mc⟩:=acd Hb.guard c.out (by have:=Bd.out;omega);obtain⟨Hc,a3,Mc⟩:=drawn a3 Mc;have Nc:=Nb.add Mc;obtain⟨Hd',q4,a4,Md⟩:=Xo Hc.guard 1 (by omega);obtain⟨Hd,a4,Md⟩:=drawn a4 Md;have Nd:=Nc.add Md;have o1:=Ma.lt aT;have o2:=Mb.lt aT;have o3:=Mc.lt aT;have o4:=Md.lt aT;have hfl:=M.good.lt hf;have cd:Cur H1.next Hd f 0 x 4 _:=(((cx.ext Ma.next Ma.same).ext Mb.next Mb.same).ext Mc.next Mc.same).ext Md.next Md.same
   let a:=aui q1 q2 q3 q4;let o:gB:=.blk 0 142 (oD a);let g4:=upd (upd (upd (upd gi q1 (nO [] c.out)) q2 (nO [] c.inn)) q3 (nO [] c.out)) q4 (nO [] 1);have low:∀q,q<Hi.next->g4 q=gi q:=λq hq=>by
    simp only[g4];rw[bD (by omega),bD (by omega),bD (by omega),bD (by omega)]
   have hf4:g4 f=some (afu P i):=by rw[low f hfl,hf]
   obtain⟨x',He,Hf,t1,t2,t3,t4⟩:=(Nd.good.new o).append (e:=142) (by_:=32) (by rw[jh,Nd.base];simp only[H1,jh,eF];omega) hf4 (i:=0) rfl (by decide) (pW P i) (cd.new o) (jX (ex:=true) (n:=1) (m:=4) (l:=oD a) rfl) rfl (by have:=Bd.aG;unfold most;omega) (by have:=Bd.aG;unfold most;omega);let P':Nat->Nat->Nat:=λj=>if j=i then a else P j
   have hP:∀j,j<i->P' j=P j:=λj hj=>by simp only[P'];rw[if_neg (by omega)]
   have hPi:P' i=a:=by simp only[P',if_true]
   have Mf:Made H1 Hf (upd g4 f (afu P' (i+1))):=by
    refine((Nd.new o).step t3 t4).as ?_
    congr 1
    simp only[afu,zb7];rw[zbX,zbx,Lp i hP,zaE,zdu,zbd,hPi]
   have hq:∀s,s<4->Hi.next<=a s:=λs hs=>by
    match s,hs with
    |0,_=>exact o1.1
    |1,_=>exact zav Ma.next o2.1
    |2,_=>exact zav Ma.next (zav Mb.next o3.1)
    |3,_=>exact zav Ma.next (zav Mb.next (zav Mc.next o4.1))
   have hpl:∀j,j<i->∀s,s<4->P j s<Hi.next:=λj hji s hs=>by
    obtain⟨l,r,hg⟩:=(hp j hji).some hs;exact M.good.lt hg
   obtain⟨H',g',P'',r1,r2⟩:=ih (i+1) (by omega) Hf _ P' Mf aT (λj hj1=>by
    by_cases hji:j=i
    ·subst hji;rw[hPi];have h4:∀s,s<4->a s≠f:=λs hs=>by have:=hq s hs;omega
     refine wB.ext (g:=g4) ⟨?_,?_,?_,?_⟩ λs hs=>bD (h4 s hs)
     ·show g4 q1=_;simp only[g4];rw[bD (by omega),bD (by omega),bD (by omega),aT];rfl
     ·show g4 q2=_;simp only[g4];rw[bD (by omega),bD (by omega),aT];rfl
     ·show g4 q3=_;simp only[g4];rw[bD (by omega),aT];rfl
     ·show g4 q4=_;simp only[g4];rw[aT];rfl
    ·rw[hP j (by omega)];refine(hp j (by omega)).ext λs hs=>?_;have hlt:=hpl j (by omega) s hs;obtain⟨l,r,hg⟩:=(hp j (by omega)).some hs;have:P j s≠f:=λe=>by rw[e,hf]at hg;cases hg
     rw[bD this,low _ hlt]) (λj k s t hj1 hk1 hs ht e=>by
    by_cases hji:j=i
    ·by_cases hki:k=i
     ·subst hji;subst hki;refine⟨rfl,?_⟩;rw[hPi]at e
      match s,hs,t,ht with
      |0,_,0,_|1,_,1,_|2,_,2,_|3,_,3,_=>rfl
      |0,_,1,_|0,_,2,_|0,_,3,_|1,_,0,_|1,_,2,_|1,_,3,_|2,_,0,_|2,_,1,_|2,_,3,_|3,_,0,_|3,_,1,_|3,_,2,_=>simp only[a,aui]at e;omega
     ·subst hji;rw[hPi,hP k (by omega)]at e;have:=hq s hs;have:=hpl k (by omega) t ht;omega
    ·by_cases hki:k=i
     ·subst hki;rw[hPi,hP j (by omega)]at e;have:=hq t ht;have:=hpl j (by omega) s hs;omega
     ·rw[hP j (by omega),hP k (by omega)]at e;exact hj j k s t (by omega) (by omega) hs ht e)
   refine⟨H',g',P'',?_,r2⟩;rw[abj];have s1:=ld5 Hi M.same;have s2:=ld6 Ha Na.same;have s3:=ld5 Hb Nb.same;have ep:∀r r',bd 121 [(0,.ref r 0 0),(1,.ref r' 0 0)]=some (.agg [.ref r 0 0,.ref r' 0 0]):=λr r'=>by
    simp only[xq_,agV,jg,fK,agU];rfl
   have eq:∀r r' r2 r3,bd 142 [(0,.agg [.ref r 0 0,.ref r' 0 0]),(1,.agg [.ref r2 0 0,.ref r3 0 0])]=some (.agg [.ref r 0 0,.ref r' 0 0,.ref r2 0 0,.ref r3 0 0]):=λr r' r2 r3=>by
    simp only[xq_,amW,jg,fK,agX];rfl
   have eb:=jP (e:=142) (m:=4) (z:=[zP,zP,zP,zP]) (v:=.agg [.ref q1 0 0,.ref q2 0 0,.ref q3 0 0,.ref q4 0 0]) (H:=Hd) rfl rfl rfl;simp only[eH]at eb;simp only[o,a,oD,aui,f]at t1 t2 r1 hx;simp only[Nat.reduceLeDiff,xq_,hq_,h1,f,hx,s1,s2,s3,a1,a2,a3,a4,ep,eq,amK,zbk,eb,t1,t2,bI,h6,h7,r1]
 obtain⟨H',g',P,r1,r2,r3,r4,r5⟩:=key c.aG.toNat 0 (by omega) H2 _ _ M0 aT (λj hj=>by omega) (λi j s t hi=>by omega);refine⟨H',f,P,g',bn rfl rfl (aty _ _ _ (r:=(_,H')) ?_),r2.wz,⟨?_,?_,rfl,rfl⟩,r5⟩
 ·have e0:bd 145 []=some (.agg [zN]):=by
   simp only[xq_,amY,jg,fK]
  have a0:([zN]:List AV).all AV.aS=true:=rfl;simp only[Nat.reduceLT,xq_,hq_,aoc,aC (eu c),e0,aC a0,l0];exact r1
 ·rw[r3];simp only[Fab.new,zcw]
 ·intro i p hp;simp only[Fab.new]at hp;rw[zbB]at hp;split at hp
  ·cases hp;exact r4 i (by omega)
  ·cases hp
structure Adr where
 iL:Nat
 fab:Nat
 trace:Nat
 N:Nat->Nat->Nat
 P:Nat->Nat->Nat
def JI(A:Adr)(c:Cfg):List AV:=[.ref A.fab 0 0,.ref A.trace 0 0]++c.av
def oV(N:Nat->Nat->Nat)(n:Nat):List AV:=(List.range n).map λi=>.ref (N i 0) 0 0
def xE(A:Adr)(c:Cfg)(n:Nat):List Cell:=(JI A c).map .av++[.seq 1 (oV A.N n)]
def arY(N:Nat->Nat->Nat)(n:Nat):Prop:=∀i j s t,i<n->j<n->s<6->t<6->N i s=N j t->i=j/\s=t
structure gJ(g:bF)(A:Adr)(m:cO):Prop where
 iL:g A.iL=some (xE A m.c m.aG.length)
 trace:g A.trace=some (mP m.trace)
 fab:iD g A.fab A.P m.c m.fab
 bH:∀(i:Nat) n,m.aG[i]?=some n->qI g (A.N i) m.c i n
 Xt:UW A.P m.fab.l.length
 arZ:arY A.N m.aG.length
 tf:A.trace≠A.fab
def qI.some {g:bF}{a:Nat->Nat}{c:Cfg}{me:Int}{n:Node}(h:qI g a c me n){s:Nat}(b:s<6):∃l,g (a s)=some l:=by
 obtain⟨d,e,i,j,k,m⟩:=h
 match s,b with
 |0,_=>exact⟨_,d⟩
 |1,_=>exact⟨_,e⟩
 |2,_=>exact⟨_,i⟩
 |3,_=>exact⟨_,j⟩
 |4,_=>exact⟨_,k⟩
 |5,_=>exact⟨_,m⟩
def qI.ext {g g':bF}{a:Nat->Nat}{c:Cfg}{me:Int}{n:Node}(h:qI g a c me n)(b:∀s,s<6->g' (a s)=g (a s)):qI g' a c me n:=by
 obtain⟨d,e,i,j,k,m⟩:=h;exact⟨by rw[b 0 V,d],by rw[b 1 V,e],by rw[b 2 V,i],by rw[b 3 V,j],by rw[b 4 V,k],by rw[b 5 V,m]⟩
def qI.inj {g:bF}{a:Nat->Nat}{c:Cfg}{me:Int}{n:Node}(h:qI g a c me n){s t:Nat}(b:s<6)(d:t<6)(e:a s=a t):s=t:=by
 obtain⟨i,j,k,m,o,p⟩:=h;have q:(g (a s)).map List.length=(g (a t)).map List.length:=by rw[e]
 match s,b,t,d with
 |0,_,0,_|1,_,1,_|2,_,2,_|3,_,3,_|4,_,4,_|5,_,5,_=>rfl
 |0,_,1,_|0,_,2,_|0,_,3,_|0,_,4,_|0,_,5,_|1,_,0,_|1,_,2,_|1,_,3,_|1,_,4,_|1,_,5,_|2,_,0,_|2,_,1,_|2,_,3,_|2,_,4,_|2,_,5,_|3,_,0,_|3,_,1,_|3,_,2,_|3,_,4,_|3,_,5,_|4,_,0,_|4,_,1,_|4,_,2,_|4,_,3,_|4,_,5,_|5,_,0,_|5,_,1,_|5,_,2,_|5,_,3,_|5,_,4,_=>
  simp[i,j,k,m,o,p,yO,OD,Cfg.av,bU.av,dD,qU,EG,EF,iT]at q
def I8 {N N':Nat->Nat->Nat}{n:Nat}(h:∀i,i<n->N' i=N i):oV N' (n+1)=oV N n++[.ref (N' n 0) 0 0]:=by
 unfold oV;rw[zbX,zbn]
 congr 1
 refine zbo λi hi=>?_;rw[h i (za0.1 hi)]
def Bj {c:Cfg}{ps:List (List Opn)}(h:c.sO ps=true):(ps.length:Int)=c.aG/\∀l∈ps,l.length<=24:=by
 simp only[Cfg.sO,zah,decide_eq_true_eq,za6]at h;exact⟨h.2,λl b=>(h.1 l b).1⟩
def Ls(H:ah)(hb:H.base<=H.next)(c:Cfg)(h:c.ok=true){x:AV}{ps:List (List Opn)}(hx:UQ H x ps)(hp:c.sO ps=true):∃H' A g',cl 20 [.agg c.av,x] H=some (.tup [.ref A.iL 0 0,I 0],H')/\Made H H' g'/\gJ g' A (.new c ps):=by
 have Bd:=qP h;obtain⟨hp1,hp2⟩:=Bj hp;have hn:=Bd.aG;let H1:=H.new (.blk 0 31 c.av);have lt1:H.next<H1.next:=by simp only[H1,eF];omega
 have g1:H1.get H.next=.blk 0 31 c.av:=aP rfl
 have b1:=gX g1;have e1:=afq H1 c h;have e2:=ajk H1 c h (hx.iQ (H':=H1) (by omega) λr hr=>bC hr) (by omega) λl hl=>by have:=hp2 l hl;omega
 rw[hp]at e2;have e3:=ku H1 c.init (by have:=Bd.init;have:=Bd.iC;omega);obtain⟨H2',f,P,gf,e4,M1,F1,J1⟩:=acj H1.guard (zac _) c h;obtain⟨H2,e4,M1⟩:=drawn e4 M1;obtain⟨H3',t,e5,M2⟩:=afn H2.guard;obtain⟨H3,e5,M2⟩:=drawn e5 M2;let A0:Adr:=⟨H3.next,f,t,λ_ _=>0,P⟩
 have bx:∀H':ah,(∀r,r<H1.next->H'.get r=H1.get r)->H'.get H.next=.blk 0 31 c.av:=λH' hs=>by rw[hs _ lt1,g1]
 have M12:=M1.add M2;have b3:=gX (bx H3 M12.same);have b2:=gX (bx H2 M1.same);let xs:=JI A0 c++[zN]
 have hall:xs.all AV.aS=true:=by simp only[xs,JI,zbf,eu];rfl
 have M3:Made H3 (H3.new (.blk 0 53 xs)) (upd nP H3.next (xE A0 c 0)):=by
  refine kP hall (by simp[xs,xE]) λi cc y hc hy=>?_;simp only[xE]at hc;by_cases hi:i<(JI A0 c).length
  ·left;rw[zaG (by rw[zaz];exact hi),zaw]at hc;rw[zaG hi]at hy;rw[hy]at hc;exact(zaW hc).symm
  ·right;have hlen:(JI A0 c).length=10:=rfl;have:i=10:=by
    have:=(zaf.1 hy).1;simp only[xs,zar,zak,zan]at this;omega
   subst this;cases hc;cases hy;exact⟨rfl,1,rfl⟩
 have M0:=M12.add M3;let g0:=upd (upd gf t (mP [])) H3.next (xE A0 c 0)
 let K:=H3.next
 have key:∀k i,i+k=ps.length->∀Hi gi N,Made H1 Hi gi->gi K=some (xE { A0 with N:=N } c i)->(∀q,q<K->gi q=g0 q)->(∀(j:Nat) l,j<i->ps[j]?=some l->qI gi (N j) c j (.new c j l))->arY N i->
   ∃H' g' N',N7 cl [.ref H.next 0 0,.ref K 0 0,x,I ps.length,I i] Hi=some (.tup [.ref K 0 0,I 0],H')/\Made H1 H' g'/\g' K=some (xE { A0 with N:=N' } c ps.length)/\(∀q,q<K->g' q=g0 q)/\(∀(j:Nat) l,j<ps.length->ps[j]?=some l->qI g' (N' j) c j (.new c j l))/\arY N' ps.length:=by
  intro k
  induction k with
  |zero=>
   intro i hi Hi gi N M hm hl hnd hj;have h1:¬(i:Int)<ps.length:=by omega
   have hi':ps.length=i:=by omega
   rw[aa9];refine⟨Hi,gi,N,?_,M,by rw[hi'];exact hm,hl,by rw[hi'];exact hnd,by rw[hi'];exact hj⟩;simp only[xq_,h1]
  |succ k ih=>
   intro i hi Hi gi N M hm hlow hnd hj;have h1:(i:Int)<ps.length:=by omega
   have h6:(i:Int)+1=((i+1:Nat):Int):=by omega
   have h7:=wrap_i64 (a:=((i+1:Nat):Int)) (by omega) (by omega);have hxi:=hx.iQ (H':=Hi) (zav (Nat.le_of_lt lt1) M.next) λr hr=>by rw[M.same r (by omega)];exact bC hr
   obtain⟨cells,x1,x2⟩:=hxi;have hcl:cells.length=ps.length:=by have:=x1.1;omega
   have s1:=x1.ix (k:=.i64) (i:=(i:Int)) (by omega) h1;rw[zam]at s1;have s2:=x1.ld (i:=i) (by omega);obtain⟨v,hv⟩:∃v,cells[i]?=some v:=⟨_,zab (by omega)⟩
   obtain⟨l,hl⟩:∃l,ps[i]?=some l:=⟨_,zab (by omega)⟩
   rw[hv]at s2;obtain⟨v1,v2⟩:=x2 i v l hv hl;have s4:=gX (bx Hi M.same);obtain⟨y,hy,cy⟩:=M.good.seq hm (i:=10) (m:=1) (l:=oV N i) rfl;obtain⟨Ha',a,ga,a1,Ma,Ia⟩:=ak3 Hi.guard c h i l (by have:=hp2 l (zas hl);omega) v1.guard v2;obtain⟨Ha,a1,Ma⟩:=drawn a1 Ma;have Na:=M.trans Ma;let ga':=cup Hi.next gi ga
   have hK:=M.good.lt hm;have ajl:∀q,q<Hi.next->ga' q=gi q:=λq hq=>by simp only[ga',cup,hq,if_true]
   have hma:ga' K=some (xE { A0 with N:=N } c i):=by rw[ajl K hK,hm]
   let o:gB:=.blk 0 64 [.ref (a 0) 0 0];have hnl:(oV N i).length=i*1:=by simp[oV]
   obtain⟨y',He,Hf,t1,t2,t3,t4⟩:=(Na.good.new o).append (e:=64) (by_:=8) (by rw[jh,Na.base];simp only[H1,jh,eF];omega) hma (i:=10) rfl (by decide) hnl ((cy.ext Ma.next Ma.same).new o) (jX (ex:=true) (n:=1) (m:=1) (l:=[.ref (a 0) 0 0]) rfl) rfl (by unfold most;omega) (by unfold most;omega);let N':Nat->Nat->Nat:=λj=>if j=i then a else N j
   have hN:∀j,j<i->N' j=N j:=λj hj=>by simp only[N'];rw[if_neg (by omega)]
   have hNi:N' i=a:=by simp only[N',if_true]
   have Mf:Made H1 Hf (upd ga' K (xE { A0 with N:=N' } c (i+1))):=by
    refine((Na.new o).step t3 t4).as ?_
    congr 1
    simp only[xE];rw[I8 hN,hNi];rfl
   have hal:∀s,s<6->Hi.next<=a s/\ga' (a s)=ga (a s):=λs hs=>by
    obtain⟨l,hg⟩:=Ia.some hs;have:=(Ma.lt hg).1;exact⟨this,by simp only[ga',cup];rw[if_neg (by omega)]⟩
   have hNl:∀j,j<i->∀s,s<6->N j s<Hi.next:=λj hji s hs=>by
    obtain⟨lj,hlj⟩:∃l,ps[j]?=some l:=⟨_,zab (by omega)⟩
    obtain⟨l,hg⟩:=(hnd j lj hji hlj).some hs;exact M.good.lt hg
   obtain⟨H',g',N'',r1,r2⟩:=ih (i+1) (by omega) Hf _ N' Mf aT (λq hq=>by
    rw[bD (by omega),ajl q (by omega),hlow q hq]) (λj lj hj1 hlj=>by
    by_cases hji:j=i
    ·subst hji;rw[hl]at hlj;cases hlj;rw[hNi];exact Ia.ext λs hs=>by
      obtain⟨h1,h2⟩:=hal s hs;rw[bD (by omega),h2]
    ·rw[hN j (by omega)];refine(hnd j lj (by omega) hlj).ext λs hs=>?_;have hlt:=hNl j (by omega) s hs;have hne:N j s≠K:=λe=>by
      have I:=hnd j lj (by omega) hlj;obtain⟨l',hg⟩:=I.some hs;obtain⟨h0,h1,h2,h3,h4,h5⟩:=I;have hh:(gi (N j s)).map (λl=>l[10]?)=some (some (.seq 1 (oV N i))):=by rw[e,hm];rfl
      match s,hs with
      |0,_=>rw[h0]at hh;simp[yO,OD,Cfg.av,bU.av]at hh
      |1,_=>rw[h1]at hh;simp[dD]at hh
      |2,_=>rw[h2]at hh;simp[qU]at hh
      |3,_=>rw[h3]at hh;simp[EG,Cfg.av]at hh
      |4,_=>rw[h4]at hh;simp[EF,Cfg.av]at hh
      |5,_=>rw[h5]at hh;simp[iT]at hh
     rw[bD hne,ajl _ hlt]) (λj k s t hj1 hk1 hs ht e=>by
    by_cases hji:j=i
    ·by_cases hki:k=i
     ·subst hji;subst hki;rw[hNi]at e;exact⟨rfl,Ia.inj hs ht e⟩
     ·subst hji;rw[hNi,hN k (by omega)]at e;have:=(hal s hs).1;have:=hNl k (by omega) t ht;omega
    ·by_cases hki:k=i
     ·subst hki;rw[hNi,hN j (by omega)]at e;have:=(hal t ht).1;have:=hNl j (by omega) s hs;omega
     ·rw[hN j (by omega),hN k (by omega)]at e;exact hj j k s t (by omega) (by omega) hs ht e)
   refine⟨H',g',N'',?_,r2⟩;rw[aa9];have eb:=jP (e:=64) (m:=1) (z:=[zP]) (v:=.ref (a 0) 0 0) (H:=Ha) rfl rfl rfl;have ec:(AV.ref (a 0) 0 0).cells=[.ref (a 0) 0 0]:=rfl;rw[ec]at eb;simp only[o]at t1 t2;simp only[Nat.reduceLeDiff,xq_,hq_,h1,s1,s2,s4,hy,a1,asx,zbk,eb,t1,t2,bI,h6,h7,r1]
 have hfl:f<H2.next:=M1.good.lt F1.1
 have ht:=M2.lt aT;obtain⟨H',g',N,r1,r2,r3,r4,r5,r6⟩:=key ps.length 0 (by omega) _ g0 (λ_ _=>0) M0 aT (λq hq=>rfl) (λj l hj=>by omega) (λi j s t hi=>by omega);have hg0:∀q,q<H2.next->g0 q=gf q:=λq hq=>by simp only[g0];rw[bD (by omega),bD (by omega)]
 refine⟨H',{ A0 with N:=N },g',bn rfl rfl (as4 _ _ _ _ (r:=(_,H')) ?_),r2.wz,?_⟩
 ·have l7:c.av[7]?=some (dat c.init):=rfl;have b0:pY Tryz.prog .neq 57 (I 0) (I 0)=some (B false):=by kernel_rfl
  have st7:st 1 (.ref H.next 0 7) (dat c.init) H1=some (aY,H1):=by
   simp only[H1];rw[uf rfl];simp only[Nat.reduceAdd,aN,xq_,hq_,Cfg.av,hb]
  have em:bd 53 [(0,.ref f 0 0),(1,.ref t 0 0),(2,.agg c.av)]=some (.agg xs):=by
   simp only[xq_,asy,jg,fK,amP,Cfg.av,eH];rfl
  have el:=(hx.iQ (H':=H3.new (.blk 0 53 xs)) (by have:=M12.next;simp only[eF];omega) λr hr=>by rw[M0.same r (by omega)];exact bC hr)
  obtain⟨cells,x1,_⟩:=el;have el:=x1.lnS;simp only[H1]at b1 e1 e2 e3 e4 e5 st7;simp only[Nat.reduceLT,xq_,hq_,anQ,aC (eu c),b1,e1,b0,e2,e3,l7,st7,e4,e5,b3,em,aC hall,el];exact r1
 ·refine⟨?_,?_,⟨?_,?_,rfl,rfl⟩,?_,?_,?_,?_⟩
  ·rw[r3];simp only[cO.new,zcS]
  ·rw[r4 t ht.2];simp only[g0];rw[bD (by omega),aT];rfl
  ·show g' f=_;rw[r4 f (by have:=M2.next;omega),hg0 f hfl,F1.1];rfl
  ·intro i p hp;have I:=F1.2.1 i p hp;exact I.ext λs hs=>by
    obtain⟨l,r,hg⟩:=I.some hs;have:=M1.good.lt hg;rw[r4 _ (by have:=M2.next;omega),hg0 _ this]
  ·intro i n hi;simp only[cO.new,za9,zbO]at hi;obtain⟨l,hl,rfl⟩:=hi;exact r5 i l (zaf.1 hl).1 hl
  ·simp only[cO.new,Fab.new,zcw];exact J1
  ·simp only[cO.new,zcS];exact r6
  ·show t≠f;omega
section
variable {b:Nat}{H:ah}{g:bF}{q:Nat}
def Xu(G:Good b H g){p:Proc}(h:g q=some (qU p))(m:p.ops.length<1000)(o:p.bT.length<1000):cl 66 [.ref q 0 0] H=some (I p.left,H):=by
 refine bn rfl rfl (atE _ _ _ ?_);have d:=G.load h (i:=0) rfl;have e:=(HY eU H p.ops).lnS;obtain⟨x,j,c⟩:=G.seq h (i:=1) rfl;have k:=(c.is (n:=p.bT.length) J O).lnS;simp only[xq_,aog,d,e,j,k,lH,Proc.left];rw[wrap_i64 V V]
def acn(G:Good b H g){p:Proc}(h:g q=some (qU p)):cl 64 [.ref q 0 0] H=some (B p.fU,H):=by
 refine bn rfl rfl (atC _ _ _ ?_);have d:=G.load h (i:=2) rfl;simp only[xq_,aof,d]
def aco(G:Good b H g){l:List Pkt}{room:Int}(h:g q=some (nO l room)):cl 52 [.ref q 0 0] H=some (I l.length,H):=by
 refine bn rfl rfl (ato _ _ _ ?_);obtain⟨x,d,c⟩:=G.seq h (i:=0) rfl;have e:=(c.is J (dF bZ l)).lnS;simp only[xq_,an3,d,e]
def YK {H:ah}{s d r:Nat}{l:List Int}(b:l≠[])(e:s<=r){ty:TypeId}(g:H.get r=.blk 0 ty (l.map I)){ex:Bool}:bV H s (d+2) (.sl r 0 0 1 l.length l.length ex)=some (dat l):=by
 rw[qH b];refine kS e (cells:=l.map I) ?_ (iJ _ λx h=>rU _ x h _ _);simp only[cZ,g];rw[if_pos ⟨trivial,O⟩,zaS,zay O]
end
section
variable {b:Nat}{H:ah}{g:bF}{q f:Nat}{P:Nat->Nat->Nat}{c:Cfg}{fab:Fab}
def Cur.elemAt {i m n:Nat}{x:AV}{l:List AV}(g:Cur b H q i x m l)(hm:0<m)(h:l.length=n*m){j:Nat}(z:j<n):
  ∃r gg o,(∀k:IntKind,ix m x (.s (.int k j)) H=some (.ref r gg o,H))/\(∀k,k<m->ld (.ref r gg (o+k)) H=(l[j*m+k]?).map λv=>(v,H))/\lda m (.ref r gg o) H=some (.agg ((l.drop (j*m)).take m),H):=by
 have w:=g.is hm h;have d:(j+1)*m<=n*m:=zaF _ V;rw[zbF,zbk]at d;rcases g.length hm h with⟨_,A⟩|⟨r,gg,off,e,ex,C,all,rfl,k1,D,E,k4,p,F,G,u⟩
 ·omega
 have y:n*m<=e*m:=zaF _ k4;refine⟨r,gg,off+j*m,λk=>?_,λk hk=>?_,?_⟩
 ·have:=w.ix (k:=k) (i:=(j:Int)) V V;rw[zam]at this;exact this
 ·rw[dU p,u,zaC,if_pos V,zaH,zck]
 ·rw[iP p V,u]
  congr 3
  rw[zcI,zbN,zb4,zbm V]
def acp {α:Type}{enc:α->List AV}{m:Nat}(b:∀a,(enc a).length=m)(l:List α)(i:Nat)(a:α)(hi:l[i]?=some a){k:Nat}(hk:k<m):(l.flatMap enc)[i*m+k]?=(enc a)[k]?:=by
 have:=vF b l i a hi;rw[<-this,zaC,if_pos hk,zaH]
def FY(G:Good b H g)(F:iD g f P c fab)(k:fab.l.length<1000)(i:Int):cl 71 [.ref f 0 0,I i] H=some (B (fab.is i),H):=by
 refine bn rfl rfl (atH _ _ _ _ ?_);obtain⟨x,e,h⟩:=G.seq F.1 (i:=0) rfl;have j:=(h.is J (pW P _)).lnS;by_cases d:0<=i
 ·simp only[xq_,akB,d,e,j,Fab.is,zaJ]
 ·simp only[xq_,akB,d,Fab.is,zaL]
def iD.port(F:iD g f P c fab){i:Nat}(hi:i<fab.l.length):wB g (P i) c (fab.port i):=by
 have:=F.2.1 i (fab.l[i]) (zab hi);unfold Fab.port;rw[zam,zaA,zab hi];exact this
end
section
variable {b:Nat}{H:ah}{g:bF}{q f:Nat}{P:Nat->Nat->Nat}{c:Cfg}{fab:Fab}
def ak4 {e:TypeId}{H:ah}{a b c d:Nat}:bsl e 2 [zP,zP] 2 [(0,.agg [.ref a 0 0,.ref b 0 0]),(1,.agg [.ref c 0 0,.ref d 0 0])] H=some (.sl H.next 0 0 2 2 2 true,H.new (.blk 0 e [.ref a 0 0,.ref b 0 0,.ref c 0 0,.ref d 0 0])):=rfl
def iU(P:Nat->Nat->Nat)(n:Nat):List AV:=(List.range n).flatMap λi=>oD (P i)
def iD.lt(G:Good b H g)(F:iD g f P c fab){i s:Nat}(hi:i<fab.l.length)(d:s<4):P i s<H.next:=by
 obtain⟨l,r,h⟩:=(F.port hi).some d;exact G.lt h
def Xv(G:Good b H g)(F:iD g f P c fab)(hn:fab.l.length<1000)(h0:fab.l.length≠0):
  cl 51 [.ref f 0 0] H=some (.vs (2*fab.l.length) 2 (iU P fab.l.length),H):=by
 obtain⟨x,W,Q⟩:=G.guard.seq F.1 (i:=0) rfl;have X:=(Q.is J (pW P _)).lnS;have C:∀d,∀y∈iU P fab.l.length,∀q,bV q H.next (d+1) y=some y:=λd y w q=>by
  obtain⟨i,hi,w⟩:=za5.1 w;have hi:=za0.1 hi;simp only[oD,zao,zaB,or_false]at w;rcases w with rfl|rfl|rfl|rfl <;> · rw[bV];exact if_pos (F.lt G hi V)
 have key:∀k i,i+k=fab.l.length->∀h t,Own H.next h t 2 (iU P i)->Step H.next H.guard h->
   ∃v q,Ob cl [t,x,I fab.l.length,I i] h=some (v,q)/\Own H.next q v 2 (iU P fab.l.length):=by
  intro k
  induction k with
  |zero=>
   intro i hi h t o s;have D:¬(i:Int)<fab.l.length:=V
   rw[abg];refine⟨t,h,?_,by rw[show fab.l.length=i by omega];exact o⟩;simp only[xq_,D]
  |succ k ih=>
   intro i hi h t o s;have D:(i:Int)<fab.l.length:=V
   have h6:(i:Int)+1=((i+1:Nat):Int):=V
   have h7:=wrap_i64 (a:=((i+1:Nat):Int)) V V;obtain⟨r,gg,off,E,_,K⟩:=(Q.ext s.next s.low).elemAt J (pW P _) (j:=i) V;have E:=E .i64;rw[vF (m:=4) (λ_=>rfl) _ i i (zbi V)]at K;let H1:=h.new (.blk 0 142 (oD (P i)));have p:(iU P i).length=(2*i)*2:=by
    rw[iU,pW];omega
   have sb:h.base=H.next:=s.base
   have sn:H.next<=h.next:=s.next
   obtain⟨v',Hj,R,T,t3⟩:=((o.new (.blk 0 142 (oD (P i)))).new (.blk 0 121 (oD (P i)))).step (e:=121) (by_:=16) (by simp only[eF];omega) (by simp only[jh];omega) J p (jX (ex:=true) (n:=2) (m:=2) (l:=oD (P i)) rfl) rfl (by unfold most;omega) (by unfold most;omega);have z:iU P (i+1)=iU P i++oD (P i):=by
    simp only[iU];rw[zbX,zbx,zaE,zdu,zbd]
   rw[<-z]at T;obtain⟨v,q,L,A⟩:=ih (i+1) V Hj v' T ((s.trans ((Step.new _ V).trans (Step.new _ (by simp only[eF];omega)))).trans t3);refine⟨v,q,?_,A⟩;rw[abg];have ca:∀a b c d,(AV.agg [.ref a 0 0,.ref b 0 0,.ref c 0 0,.ref d 0 0]).cells=[.ref a 0 0,.ref b 0 0,.ref c 0 0,.ref d 0 0]:=λ_ _ _ _=>rfl;have u:h.base<=h.next:=V
   simp only[oD,eF]at K R;simp only[Nat.reduceAdd,Nat.reduceLeDiff,aN,xq_,hq_,D,E,K,u,amJ,Nat.reduceMul,ak4,R,bI,h6,h7,L]
 obtain⟨v,q,L,A⟩:=key fab.l.length 0 V H.guard zN (.inl ⟨rfl,rfl⟩) (Step.refl _ _);refine iy rfl rfl (atn _ _ _ (r:=(v,q)) ?_) ?_
 ·simp only[xq_,an2,W,X];exact L
 ·have p:(iU P fab.l.length).length=(2*fab.l.length)*2:=by
   rw[iU,pW];omega
  have z:=A.is J p;obtain⟨c1,c2⟩:=z.wS;rcases A with⟨rfl,e⟩|⟨r,gg,off,n',aa,ex,ty,all,rfl,k2,k3,k4,k5,k6,k7,k8⟩
  ·rw[e]at p;simp only[zan]at p;omega
  ·have M:n'=2*fab.l.length:=by
    have:=z.2.2.1;exact this
   subst M;exact kS k2 c2 (iJ _ λy w=>C _ y w _)
def acr {α β:Type}{u v:α->β}:∀(l:List α) (i:Nat),(l.flatMap λp=>[u p,v p])[2*i]?=l[i]?.map u/\(l.flatMap λp=>[u p,v p])[2*i+1]?=l[i]?.map v
 |[],i=>by simp
 |a::l,0=>by simp
 |a::l,i+1=>by
  have:=acr (u:=u) (v:=v) l i;rw[show 2*(i+1)=2*i+1+1 by omega]
  simpa using this
def iD.ajm(F:iD g f P c fab){j:Nat}(o:j<2*fab.l.length):
  ∃l a a',fab.jA[j]?=some l/\((iU P fab.l.length).drop (j*2)).take 2=[.ref a 0 0,.ref a' 0 0]/\g a=some (nO l c.out):=by
 have hi:j / 2<fab.l.length:=V
 have k:=F.port hi;have n:fab.l[j / 2]?=some (fab.port (j / 2:Nat)):=by
  unfold Fab.port;rw[zam,zaA,zab hi];rfl
 have b:=vF (m:=4) (enc:=λi=>oD (P i)) (λ_=>rfl) (List.range fab.l.length) (j / 2) (j / 2) (zbi hi);have d:=acr (u:=Port.rq) (v:=Port.an) fab.l (j / 2);rw[n]at d;rcases Nat.mod_two_eq_zero_or_one j with h|h
 ·refine⟨_,P (j / 2) 0,P (j / 2) 1,?_,?_,k.1⟩
  ·have:=d.1;rw[show 2*(j / 2)=j by omega]at this;exact this
  ·have e:((iU P fab.l.length).drop (j*2)).take 2=(((iU P fab.l.length).drop (j / 2*4)).take 4).take 2:=by
    rw[zb4,show j / 2*4=j*2 by omega];rfl
   rw[e];exact(congrArg (List.take 2) b).trans rfl
 ·refine⟨_,P (j / 2) 2,P (j / 2) 3,?_,?_,k.2.2.1⟩
  ·have:=d.2;rw[show 2*(j / 2)+1=j by omega]at this;exact this
  ·have e:((iU P fab.l.length).drop (j*2)).take 2=((((iU P fab.l.length).drop (j / 2*4)).take 4).drop 2).take 2:=by
    rw[zcI,zbN,zb4,show j / 2*4+2=j*2 by omega];rfl
   rw[e];exact(congrArg (λl=>(List.drop 2 l).take 2) b).trans rfl
end
section
variable {b:Nat}{H:ah}{g:bF}{q f:Nat}{P:Nat->Nat->Nat}{c:Cfg}{fab:Fab}
def afv {ls:List (List Pkt)}{j:Nat}{l:List Pkt}(h:ls[j]?=some l):((ls.take (j+1)).map List.length).sum=((ls.take j).map List.length).sum+l.length:=by
 rw[List.take_succ,h];simp
def Ri:∀l:List Port,((l.flatMap λp=>[p.rq,p.an]).map List.length).sum=(l.flatMap λp=>p.rq++p.an).length
 |[]=>rfl
 |p::l=>by
  have:=Ri l;simp only[zaE,zbn,List.sum_append,zar,this];simp
def qJ:∀l:List Port,(l.flatMap λp=>[p.rq,p.an]).length=2*l.length
 |[]=>rfl
 |p::l=>by
  have:=qJ l;simp only[zaE,zar,this,zak,zan];omega
def aqK {ls:List (List Pkt)}{m:Nat}(h:∀l∈ls,l.length<=m):(ls.map List.length).sum<=ls.length*m:=by
 induction ls with
 |nil=>simp
 |cons l ls d=>
  have g:=h l O;have:=d λe b=>h e (by simp[b]);simp only[zaD,zda,zak,zbF,zbk];omega
def afw(G:Good b H g)(F:iD g f P c fab)(y:fab.l.length<1000)(h0:fab.l.length≠0)(z:∀l∈fab.jA,l.length<1000):
  cl 17 [.ref f 0 0] H=some (I fab.under,H):=by
 have A:=Xv G.guard F y h0;have o:(iU P fab.l.length).length=(2*fab.l.length)*2:=by
  rw[iU,pW];omega
 have e:∀H,aH H (.vs (2*fab.l.length) 2 (iU P fab.l.length)) 2 (2*fab.l.length) (iU P fab.l.length):=λH=>aH.vs o;have C:=(e H.guard).lnS;have u:fab.jA.length=2*fab.l.length:=qJ fab.l;have key:∀k j,j+k=2*fab.l.length->∀d,Step H.next H.guard d->
   ∃m,NZ cl [I ((fab.jA.take j).map List.length).sum,.vs (2*fab.l.length) 2 (iU P fab.l.length),I (2*fab.l.length:Nat),I j] d=some (I fab.under,m):=by
  intro k
  induction k with
  |zero=>
   intro j D d s;have n:¬(j:Int)<(2*fab.l.length:Nat):=V
   rw[aa6];refine⟨d,?_⟩;have E:((fab.jA.take j).map List.length).sum=fab.under:=by
    rw[zay V];exact Ri fab.l
   simp only[xq_,n,E]
  |succ k K=>
   intro j D d s;have n:(j:Int)<(2*fab.l.length:Nat):=V
   have L:(j:Int)+1=((j+1:Nat):Int):=V
   have M:=wrap_i64 (a:=((j+1:Nat):Int)) V V;have v:=(e d).ix (k:=.i64) (i:=(j:Int)) V n;rw[zam]at v;have w:=(e d).lda (i:=j) V;obtain⟨l,a,a',Q,R,T⟩:=F.ajm (j:=j) V;rw[R]at w;have W:=afv Q;have X:((fab.jA.take (j+1)).map List.length).sum<=(fab.jA.take (j+1)).length*1000:=aqK λl hl=>Nat.le_of_lt (z l (zcE hl));have aa:(fab.jA.take (j+1)).length<=2*fab.l.length:=by rw[zau];omega
   have h8:((((fab.jA.take j).map List.length).sum:Nat):Int)+(l.length:Int)=((((fab.jA.take (j+1)).map List.length).sum:Nat):Int):=V
   have h9:=wrap_i64 (a:=((((fab.jA.take (j+1)).map List.length).sum:Nat):Int)) V V;have G1:Good b (d.new (.blk 0 121 [.ref a 0 0,.ref a' 0 0])) g:=(G.guard.ext s.next s.low).new _;have e3:=aco G1 T;have p:H.next<=d.next:=s.next
   have sb:d.base=H.next:=s.base
   have h:d.base<=d.next:=V
   obtain⟨m,q⟩:=K (j+1) V _ (s.trans (Step.new (.blk 0 121 [.ref a 0 0,.ref a' 0 0]) p));refine⟨m,?_⟩;rw[aa6];simp only[Nat.reduceAdd,aN,xq_,hq_,n,v,w,h,e3,bI,h8,h9,L,M,q]
 obtain⟨m,q⟩:=key (2*fab.l.length) 0 V H.guard (Step.refl _ _);refine iy rfl rfl (as1 _ _ _ (r:=(I fab.under,m)) ?_) iY;simp only[xq_,anK,A,C];exact q
end
section
variable {b:Nat}{H:ah}{g:bF}{A:Adr}{m:cO}
structure cO.fine(m:cO):Prop where
 ok:m.c.ok=true
 aG:(m.aG.length:Int)=m.c.aG
 fab:m.fab.l.length=m.aG.length
 ops:∀n∈m.aG,n.dn.ops.length<1000/\n.dn.bT.length<1000
 jA:∀l∈m.fab.jA,l.length<1000
 aJ:∀n∈m.aG,n.aJ.data.length<1000000000
 ins:∀p∈m.fab.l,p.rin.length<1000/\p.ain.length<1000
def acs(N:Nat->Nat->Nat)(n:Nat):(oV N n).length=n*1:=by simp[oV]
def acu {N:Nat->Nat->Nat}{n i:Nat}(h:i<n):(oV N n)[i]?=some (.ref (N i 0) 0 0):=by
 simp[oV,zbi h]
end
def dh(v n:Int):Int:=if n<1 then 0 else v % n
def atM(l:List Int)(i:Int):Int:=if i<l.length then l.getD i.toNat 0 else 0
def oG {v n:Int}(h:1<=n):0<=dh v n/\dh v n<n:=by
 unfold dh;rw[if_neg V];exact⟨zbS _ V,zbU _ V⟩
def afx(v n:Int)(h:1<=n):v % n=if v.tmod n<0 then v.tmod n+n else v.tmod n:=by
 have d:=Int.tmod_eq_emod (a:=v) (b:=n);have e:=zbS v (b:=n) V;have g:=zbU v (b:=n) V;rw[d];rcases Decidable.em (0<=v∨n ∣ v)with hv|hv
 ·rw[if_pos hv];split <;> omega
 ·rw[if_neg hv];split <;> omega
def afy(v n:Int)(h:1<=n):-n<v.tmod n/\v.tmod n<n:=by
 have d:=Int.tmod_eq_emod (a:=v) (b:=n);have e:=zbS v (b:=n) V;have g:=zbU v (b:=n) V;rw[d];rcases Decidable.em (0<=v∨n ∣ v)with hv|hv
 ·rw[if_pos hv];omega
 ·rw[if_neg hv];omega
def oP(H:ah)(v n:Int)(i:n<=9223372036854775807):cl 50 [I v,I n] H=some (I (dh v n),H):=by
 refine bn rfl rfl (atm _ _ _ _ ?_);by_cases g:n<1
 ·simp only[xq_,ae7,g,dh]
 ·have h:=λ(k:IntKind) (t:TypeId)=>vk (P:=Tryz.prog) (k:=k) (t:=t) (a:=v) (b:=n) V;have d:=afx v n V;have j:=afy v n V;by_cases e:v.tmod n<0
  ·have w:=wrap_i64 (a:=v.tmod n+n) V V;rw[if_pos e]at d;simp only[xq_,ae7,Oa,g,h,e,bI,w,dh,d]
  ·rw[if_neg e]at d;simp only[xq_,ae7,Oa,g,h,e,dh,d]
def ak5(H:ah){x:AV}{l:List Int}(d:aH H x 1 l.length (l.map I)){i:Int}(h0:0<=i):cl 75 [x,I i] H=some (I (atM l i),H):=by
 refine bn rfl rfl (atJ _ _ _ _ ?_);have j:=d.lnS;by_cases h:i<l.length
 ·have n:=d.ix (k:=.i64) h0 h;have m:=d.ld (i:=i.toNat) V;have b:i.toNat<l.length:=V
  rw[zaw,zab b]at m;have g:ld (eP x i.toNat) H=some (I l[i.toNat],H):=m;have e:atM l i=l[i.toNat]:=by
   unfold atM;rw[if_pos h,zaA,zab b];rfl
  simp only[xq_,akC,j,h,n,g,e]
 ·simp only[xq_,akC,j,h,atM]
def aH.upto {H:ah}{x:AV}{m n:Nat}{cells:List AV}(h:aH H x m n cells){k:IntKind}{hi:Int}(h0:0<=hi)(z:hi<=n):∃y,slS m x none (some (.s (.int k hi))) none=some y/\aH H y m hi.toNat (cells.take (hi.toNat*m)):=by
 obtain⟨i,h⟩:=h;have e:hi.toNat*m<=n*m:=zaF _ V;cases x with
 |sl r g off d len o ex=>
  obtain⟨rfl,rfl,⟨p,hc⟩,q,all,u,j,w⟩:=h;refine⟨_,Wv h0 V,by rw[zau,i];omega,rfl,rfl,⟨p,V⟩,q,all,u,V,?_⟩;rw[w,zb4,zbm e]
 |vs k' d cs=>
  obtain⟨rfl,rfl,rfl⟩:=h;refine⟨.vs hi.toNat d (cs.take (hi.toNat*d)),?_,by rw[zau,i];omega,rfl,rfl,rfl⟩;simp only[slS,jc,h0,if_true];rw[if_pos ⟨trivial,zaX _,V⟩];simp
 |s v=>
  cases v with
  |slice a b c=>
   cases a with
   |none=>
    obtain⟨rfl,rfl,rfl⟩:=h;have j:hi=0:=V
    subst j;refine⟨zN,by simp[slS,jc],?_⟩;refine⟨?_,rfl,rfl,rfl⟩;simp
   |some a=>exact h.elim
  |_=>exact h.elim
 |_=>exact h.elim
def ak6(H:ah){x:AV}{l:List Int}(g:aH H x 1 l.length (l.map I))(j:l.length<1000000000):cl 119 [x] H=some (dat l,H):=by
 by_cases b:l=[]
 ·subst b;have d:app 3 1 8 zN x H.guard=some (zN,H.guard):=by
   obtain⟨h,i⟩:=g.guard.wS;simp only[app,h,i];rfl
  refine iy rfl rfl (ahW _ _ _ (r:=(zN,H.guard)) ?_) (by rw[dat,gI];exact iY);simp only[xq_,abq,d]
 ·have d:=Ui (e:=3) (by_:=8) g.guard (yt l) (λe=>b (zaq e)) (by unfold most;omega) (by unfold most;omega);refine iy rfl rfl (ahW _ _ _ (r:=(.sl H.next 0 0 1 l.length l.length false,H.guard.new (.blk 0 (3+gV) (l.map I)))) ?_) (YK b (zac _) (aP rfl));simp only[xq_,abq,d]
def aqL(H:ah){x:AV}{l:List Int}(d:aH H x 1 l.length (l.map I)){n:Int}(h0:0<=n)(m:n<1000000000):cl 74 [x,I n] H=some (dat (l.take n.toNat),H):=by
 refine bn rfl rfl (atI _ _ _ _ ?_);have e:=d.lnS;obtain⟨y,g,b⟩:=d.upto (k:=.i64) (hi:=min (l.length:Int) n) V V;have i:(min (l.length:Int) n).toNat=(l.take n.toNat).length:=by rw[zau];omega
 rw[i,zby,<-zcy,zau]at b;have hm:l.take (min n.toNat l.length)=l.take n.toNat:=by
  rcases Nat.le_total n.toNat l.length with h|h
  ·rw[zbm h]
  ·rw[Nat.min_eq_right h,zay (zac _),zay h]
 rw[hm,<-zau]at b;have j:=ak6 H b (by rw[zau];omega);simp only[xq_,aoi,e,aam,g,j]
def kT.cfg(s:kT)(zi:List Int):Cfg:=
 ⟨1+dh s.aG 4,1+dh s.aO 4,1+dh s.aV 2,1+dh s.sets 2,1+dh s.ways 2,1+dh s.out 3,1+dh s.inn 3,zi.take ((1+dh s.aO 4)*(1+dh s.aV 2)).toNat⟩
def xF {x:AV}{l:List Int}(h:aH ah.empty x 1 l.length (l.map I))(H:ah):aH H x 1 l.length (l.map I):=
 h.iQ (zaX _) λr _ b=>absurd b (zdA r)
def ig(v:Int){n:Int}(h:1<=n)(b:n<=1000):1<=1+dh v n/\1+dh v n<=n/\IntKind.wrap .i64 (1+dh v n)=1+dh v n:=by
 have:=oG (v:=v) h;exact⟨V,V,wrap_i64 V V⟩
def ajn(s:kT)(zi:List Int):(s.cfg zi).ok=true:=by
 have b:=ig s.aG (n:=4) V V;have d:=ig s.aO (n:=4) V V;have e:=ig s.aV (n:=2) V V;have g:=ig s.sets (n:=2) V V;have h:=ig s.ways (n:=2) V V;have i:=ig s.out (n:=3) V V;have j:=ig s.inn (n:=3) V V;have hm:0<=(1+dh s.aO 4)*(1+dh s.aV 2):=zca V V;simp only[Cfg.ok,kT.cfg,zah,zau];obtain⟨k,w,_⟩:=b;obtain⟨m,y,_⟩:=d;obtain⟨o,A,_⟩:=e;obtain⟨p,C,_⟩:=g;obtain⟨q,D,_⟩:=h;obtain⟨u,E,_⟩:=i;obtain⟨v,F,_⟩:=j;generalize (1+dh s.aO 4)*(1+dh s.aV 2)=z at hm ⊢;exact⟨⟨⟨⟨⟨⟨⟨⟨decide_eq_true k,decide_eq_true V⟩,⟨decide_eq_true m,decide_eq_true V⟩⟩,⟨decide_eq_true o,decide_eq_true V⟩⟩,⟨decide_eq_true p,decide_eq_true V⟩⟩,⟨decide_eq_true q,decide_eq_true V⟩⟩,⟨decide_eq_true u,decide_eq_true V⟩⟩,⟨decide_eq_true v,decide_eq_true V⟩⟩,decide_eq_true V⟩
def acv(c:Cfg):Frz 9 (.agg c.av):=mF λx b=>by
 simp only[Cfg.av,zao,zaB,or_false]at b;rcases b with rfl|rfl|rfl|rfl|rfl|rfl|rfl|rfl <;> first|exact fC|exact sK
def Rj(H:ah){s:kT}{zi zw zk za zv:List Int}(h:s.Ok zi zw zk za zv)(hi:aH ah.empty s.init 1 zi.length (zi.map I))(hc:s.init.aS=true/\s.who.aS=true/\s.kinds.aS=true/\s.iC.aS=true/\s.bT.aS=true):
  cl 33 [.agg s.cells] H=some (.agg (s.cfg zi).av,H):=by
 refine bg rfl rfl (as8 _ _ _) ?_ (acv _);have j:=ig s.aG (n:=4) V V;have m:=ig s.aO (n:=4) V V;have o:=ig s.aV (n:=2) V V;have p:=ig s.sets (n:=2) V V;have q:=ig s.ways (n:=2) V V;have u:=ig s.out (n:=3) V V;have y:=ig s.inn (n:=3) V V;have hm:0<=(1+dh s.aO 4)*(1+dh s.aV 2):=zca V V;have z:(1+dh s.aO 4)*(1+dh s.aV 2)<=4*2:=zbV V V V V;have w:=wrap_i64 (a:=(1+dh s.aO 4)*(1+dh s.aV 2)) V V;have A:=λH v=>oP H v 4 V;have C:=λH v=>oP H v 2 V;have D:=λH v=>oP H v 3 V;have E:=λH=>aqL H (xF hi H) hm V;have g:s.cells.all AV.aS=true:=by
  simp only[kT.cells,zb0,zcJ,hc,zcN];rfl
 simp only[kT.cells]at g;have ev:∀a b c d e f k:Int,bd 31 [(0,I a),(1,I b),(2,I c),(3,I d),(4,I e),(5,I f),(6,I k)]=some (.agg [I a,I b,I c,I d,I e,I f,I k,zN]):=λ_ _ _ _ _ _ _=>by
  simp only[xq_,amO,jg,fK,aj8];rfl
 have F:zN.cells=[zN]:=rfl;have i:zN.aS=true:=rfl;simp only[Nat.reduceLT,Nat.reduceAdd,aN,xq_,hq_,anR,aC g,kT.cells,A,C,D,bI,j,m,o,p,q,u,y,ev,iM,w,E,i];rfl
def oW(z:Int):Int:=[1,2,3,1,2,1,4].getD (dh z 7).toNat 0
def acw(c:Cfg)(zk za zv:List Int)(i:Nat):Opn:=
 ⟨oW (atM zk i),dh (atM za i) (c.aO*c.aV),if oW (atM zk i)=2∨oW (atM zk i)=3 then atM zv i else 0⟩
def jD(c:Cfg)(zw zk za zv:List Int)(ps:List (List Opn))(i:Nat):List (List Opn):=
 let n:=(dh (atM zw i) c.aG).toNat
 if(ps.getD n []).length<24 then ps.set n (ps.getD n []++[acw c zk za zv i])else ps
def mJ(c:Cfg)(zw zk za zv:List Int):Nat->List (List Opn)
 |0=>List.replicate c.aG.toNat []
 |i+1=>jD c zw zk za zv (mJ c zw zk za zv i) i
def pJ(c:Cfg)(zw zk za zv:List Int)(most:Nat):List (List Opn):=mJ c zw zk za zv (min zw.length most)
def Rk(ps:List (List Opn)):List Cell:=ps.map λl=>.seq 3 (l.flatMap Opn.av)
def qK(c:Cfg)(zw zk za zv:List Int):∀i,(mJ c zw zk za zv i).length=c.aG.toNat
 |0=>by simp[mJ]
 |i+1=>by
  simp only[mJ,jD];split
  ·rw[zcd,qK c zw zk za zv i]
  ·exact qK c zw zk za zv i
def ajo {H:ah}{r n j:Nat}{ty:TypeId}{xs:List AV}(b:H.get r=.blk 0 ty xs)(h:j<n){k:IntKind}:ix 1 (.sl r 0 0 1 n n true) (.s (.int k j)) H=some (.ref r 0 j,H):=by
 have d:(0:Int)<=j/\(j:Int)<n:=V
 simp[ix,kV,ixO,h,bQ,b,arL,gB.gen]
def YL(z:Int):oW z=1∨oW z=2∨oW z=3∨oW z=4:=by
 have h:=oG (v:=z) (n:=7) V;unfold oW;generalize hk:(dh z 7).toNat=k;have:k<7:=V
 match k,this with
 |0,_|1,_|2,_|3,_|4,_|5,_|6,_=>simp
def Xw {ps:List (List Opn)}{j:Nat}(h:j<ps.length):(Rk ps)[j]?=some (.seq 3 ((ps.getD j []).flatMap Opn.av)):=by
 simp[Rk,zaA,zab h]
def afz {ps:List (List Opn)}{j:Nat}{l:List Opn}:(Rk ps).set j (.seq 3 (l.flatMap Opn.av))=Rk (ps.set j l):=by
 simp[Rk,List.map_set]
section
variable {H:ah}{s:kT}{zi zw zk za zv:List Int}
def UY {C:aA}(hCa:C 75=cl 75)(hCw:C 50=cl 50)(h:s.Ok zi zw zk za zv)(hi:aH ah.empty s.init 1 zi.length (zi.map I))(hw:aH ah.empty s.who 1 zw.length (zw.map I))(hk:aH ah.empty s.kinds 1 zk.length (zk.map I))(ha:aH ah.empty s.iC 1 za.length (za.map I))(hv:aH ah.empty s.bT 1 zv.length (zv.map I))
  {c:Cfg} (hc:c.ok=true) {p q r n:Nat} {ty ty':TypeId} (hp:p<H.next) (hq:q<H.next) (gp:H.get p=.blk 0 ty s.cells) (gq:H.get q=.blk 0 ty' c.av) {b:Nat} {ps:List (List Opn)} (G:Good b H (upd nP r (Rk ps))) (hb:H.base<=b) (hn:ps.length=n) (hnc:(n:Int)=c.aG)
  {i:Nat} {mo:Int} (him:(i:Int)<mo) (hm:mo<=1000) (hil:i<zw.length) (hz:∀j,j<n->ps.getD j []=[]->ld (.ref r 0 j) H=some (zN,H)):
  ∃H',zL C [I mo,.ref p 0 0,.ref q 0 0,.sl r 0 0 1 n n true,I i] H=zL C [I mo,.ref p 0 0,.ref q 0 0,.sl r 0 0 1 n n true,I (i+1:Nat)] H'/\Good b H' (upd nP r (Rk (jD c zw zk za zv ps i)))/\Step b H H'/\(∀j,j<n->(jD c zw zk za zv ps i).getD j []=[]->ld (.ref r 0 j) H'=some (zN,H')):=by
 have Bd:=qP hc;have e8:ld (.ref p 0 8) H=some (s.who,H):=by rw[dU gp];rfl
 have e9:ld (.ref p 0 9) H=some (s.kinds,H):=by rw[dU gp];rfl
 have e10:ld (.ref p 0 10) H=some (s.iC,H):=by rw[dU gp];rfl
 have e11:ld (.ref p 0 11) H=some (s.bT,H):=by rw[dU gp];rfl
 have f0:ld (.ref q 0 0) H=some (I c.aG,H):=by rw[dU gq];rfl
 have f1:ld (.ref q 0 1) H=some (I c.aO,H):=by rw[dU gq];rfl
 have f2:ld (.ref q 0 2) H=some (I c.aV,H):=by rw[dU gq];rfl
 have w0:=λH=>(xF hw H).lnS;have h1:(i:Int)<zw.length:=by omega
 have a1:=λH=>ak5 H (xF hk H) (i:=(i:Int)) (by omega);have a2:=λH=>ak5 H (xF ha H) (i:=(i:Int)) (by omega);have a3:=λH=>ak5 H (xF hv H) (i:=(i:Int)) (by omega);have k1:=λH v=>oP H v 7 (by omega);have hlw:=Bd.iC;have w:=wrap_i64 (a:=c.aO*c.aV) (by omega) (by omega);have k2:=λH v=>oP H v (c.aO*c.aV) (by omega);have k3:=λH v=>oP H v c.aG (by have:=Bd.aG;omega);rw[<-hCa]at a1 a2 a3;rw[<-hCw]at k1 k2 k3;have eb7:∀H,bs 22 7 [(0,I 1),(1,I 2),(2,I 3),(3,I 1),(4,I 2),(5,I 1),(6,I 4)] H=some (.sl H.next 0 0 1 7 7 true,H.new (.blk 0 3 [I 1,I 2,I 3,I 1,I 2,I 1,I 4])):=λH=>
  (Nz (by decide)).trans rfl
 let b7:gB:=.blk 0 3 [I 1,I 2,I 3,I 1,I 2,I 1,I 4];let Hc:=(H.new b7).new (.blk 0 61 [zI,zI,zI]);have hK:=oG (v:=atM zk i) (n:=7) (by omega);have s7:aH Hc (.sl H.next 0 0 1 7 7 true) 1 7 [I 1,I 2,I 3,I 1,I 2,I 1,I 4]:=(jX (n:=7) (m:=1) rfl).new _;have i7:=s7.ix (k:=.i64) hK.1 hK.2;have l7:=s7.ld (i:=(dh (atM zk i) 7).toNat) (by omega);have l7':ld (eP (.sl H.next 0 0 1 7 7 true) (dh (atM zk i) 7).toNat) Hc=some (I (oW (atM zk i)),Hc):=by
  rw[l7];unfold oW;generalize hk':(dh (atM zk i) 7).toNat=kk;have:kk<7:=by omega
  match kk,this with
  |0,_|1,_|2,_|3,_|4,_|5,_|6,_=>rfl
 obtain⟨o,ho⟩:∃o:Opn,o=acw c zk za zv i:=⟨_,rfl⟩
 let Hd:=(H.new b7).new (.blk 0 61 o.av);have hcn:=oG (v:=atM zw i) (n:=c.aG) (by have:=Bd.aG;omega);obtain⟨j,hj⟩:∃j:Nat,dh (atM zw i) c.aG=j:=⟨(dh (atM zw i) c.aG).toNat,by omega⟩
 have hjn:j<n:=by omega
 have wi:=λH=>(xF hw H).ix (k:=.i64) (i:=(i:Int)) (by omega) h1;have wl:∀H,ld (eP s.who (i:Int).toNat) H=some (I (atM zw i),H):=λH=>by
  rw[zam,(xF hw H).ld hil,zaw,zab hil];unfold atM;rw[if_pos h1,zam,zaA,zab hil];rfl
 have G1:Good b Hd (upd nP r (Rk ps)):=(G.new _).new _;have og:=Xw (ps:=ps) (j:=j) (by omega);obtain⟨x,hx,cu⟩:=G1.seq aT og;have hlen:=(cu.is (by decide) (dF eU _)).lnS;have hg:∃ty xs,Hd.get r=.blk 0 ty xs:=by
  obtain⟨_,τ,hR⟩:=G1;obtain⟨ty,xs,hg,_⟩:=(hR r _ aT).blk;exact⟨ty,xs,hg⟩
 obtain⟨rty,rxs,hg⟩:=hg;have ix1:=ajo (k:=.i64) hg hjn;have h6:(i:Int)+1=((i+1:Nat):Int):=by omega
 have h7:=wrap_i64 (a:=((i+1:Nat):Int)) (by omega) (by omega);have f0':ld (.ref q 0 0) Hd=some (I c.aG,Hd):=by
  simp only[Hd];rw[DV (by rw[eF];omega),DV hq,f0];rfl
 have e8':ld (.ref p 0 8) Hd=some (s.who,Hd):=by
  simp only[Hd];rw[DV (by rw[eF];omega),DV hp,e8];rfl
 have hzd:∀j,j<n->ps.getD j []=[]->ld (.ref r 0 j) Hd=some (zN,Hd):=λj' h1 h2=>by
  simp only[Hd];rw[DV (by rw[eF];have:=G.lt aT;omega),DV (G.lt aT),hz j' h1 h2];rfl
 have sd:Step b H Hd:=(Step.new _ G.1).trans (Step.new _ (G.new _).1);have tail:∃H',IV C (I mo) (.ref p 0 0) (.ref q 0 0) (.sl r 0 0 1 n n true) (I i) (.ref (H.next+1) 0 0) Hd=zL C [I mo,.ref p 0 0,.ref q 0 0,.sl r 0 0 1 n n true,I (i+1:Nat)] H'/\Good b H' (upd nP r (Rk (jD c zw zk za zv ps i)))/\Step b H H'/\(∀j,j<n->(jD c zw zk za zv ps i).getD j []=[]->ld (.ref r 0 j) H'=some (zN,H')):=by
  by_cases hl:(ps.getD j []).length<24
  ·have hl':((ps.getD j []).length:Int)<24:=by omega
   obtain⟨x',Hf,t1,fit,n1,b1,k1'⟩:=(cu.new (.blk 0 61 o.av)).app (e:=61) (by_:=24) (by rw[jh];exact hb) (by decide) (dF eU _) (jX (ex:=true) (n:=1) (m:=3) (l:=o.av) rfl) (oz o) (by unfold most;omega) (by unfold most;omega);have hrl:r<Hd.next:=G1.lt aT
   have hxr:iE x≠some r:=by
    rcases cu.own with⟨rfl,_⟩|⟨r',gg,off,n',cap,ex,ty2,all,rfl,kr,_⟩
    ·intro e;cases e
    ·intro e;simp only[iE,zaa]at e;exact kr e
   have hgf:Hf.get r=.blk 0 rty rxs:=by
    rw[k1' r (by rw[eF];omega) hxr,bC hrl,hg]
   have ix2:=ajo (k:=.i64) hgf hjn;obtain⟨Hg,t2,G2,s2,n2⟩:=(G1.new (.blk 0 61 o.av)).seat aT og (cu.new _) n1 (by rw[b1,jh];exact hb) k1' fit;have hfs:Step b (Hd.new (.blk 0 61 o.av)) Hf:=⟨b1,n1,λr' hr'=>k1' r' (by have:=G1.1;rw[eF];omega) (cu.low hr')⟩
   refine⟨Hg,?_,?_,((sd.trans (Step.new _ G1.1)).trans hfs).trans s2,?_⟩
   ·have ldo:lda 3 (.ref (H.next+1) 0 0) Hd=some (.agg o.av,Hd):=(iP (off:=0) (n:=3) (xs:=o.av) (aP (by rw[eF])) (zac 3)).trans rfl;have eb:=jP (e:=61) (m:=3) (z:=[zI,zI,zI]) (v:=.agg o.av) (H:=Hd) rfl rfl (oz o);simp only[eH]at eb;simp only[xq_,IV,N8,e8',wi,wl,f0',k3,hj,ix1,hx,hlen,hl',ldo,amI,zbk,Nat.reduceLeDiff,eb,t1,ix2,t2,bI,h6,h7]
   ·rw[pz]at G2;have e:jD c zw zk za zv ps i=ps.set j (ps.getD j []++[o]):=by
     simp only[jD,hj,zam];rw[if_pos hl,ho]
    rw[e,<-afz,zbx,zaE,zdu,zbd];exact G2
   ·have e:jD c zw zk za zv ps i=ps.set j (ps.getD j []++[o]):=by
     simp only[jD,hj,zam];rw[if_pos hl,ho]
    intro j' hj' hem;rw[e]at hem;have hne:j'≠j:=λe'=>by
     subst e';rw[zaA,zbl (by omega)]at hem;simp at hem
    have avU:ps.getD j' []=[]:=by
     rw[zaA,zbr (by omega)]at hem;rw[zaA];exact hem
    have l0:=hzd j' hj' avU;rw[dU hg]at l0;have hxj:rxs[j']?=some zN:=by
     cases hx':rxs[j']? with
     |none=>rw[hx']at l0;cases l0
     |some v=>rw[hx']at l0;simp only[zaj,zaa,zad]at l0;rw[l0.1]
    rw[ND]at t2;simp only[hgf]at t2;split at t2
    ·rename_i hc';simp only[zaa,zad,true_and]at t2;subst t2;obtain⟨_,_,hx1,_,hx5⟩:=hc';rw[dU (Ii),nD hx5,if_neg (by omega),hxj];rfl
    ·cases t2
  ·have hl':¬((ps.getD j []).length:Int)<24:=by omega
   refine⟨Hd,?_,?_,sd,?_⟩
   ·simp only[xq_,IV,N8,e8',wi,wl,f0',k3,hj,ix1,hx,hlen,hl',bI,h6,h7]
   ·have e:jD c zw zk za zv ps i=ps:=by
     simp only[jD,hj,zam];rw[if_neg hl]
    rw[e];exact G1
   ·have e:jD c zw zk za zv ps i=ps:=by
     simp only[jD,hj,zam];rw[if_neg hl]
    rw[e];exact hzd
 obtain⟨H',t1,t2⟩:=tail;refine⟨H',?_,t2⟩;simp only[Hd,Hc,b7]at t1 i7 l7';have hb0:H.base<=H.next:=zav hb G.1
 have hb1:H.base<=H.next+1:=by omega
 rw[abb,<-t1,ho];by_cases c2:oW (atM zk i)=2
 ·have oe:(acw c zk za zv i).av=[I (oW (atM zk i)),I (dh (atM za i) (c.aO*c.aV)),I (atM zv i)]:=by simp[acw,Opn.av,c2]
  simp only[Nat.reduceAdd,aN,xq_,hq_,hp,hq,e8,e9,e10,e11,f1,f2,w0,h1,him,eb7,a1,a2,a3,k1,k2,i7,l7',iM,w,aeM,jg,fK,aeL,hb1,c2,oe]
 ·by_cases c3:oW (atM zk i)=3
  ·have oe:(acw c zk za zv i).av=[I (oW (atM zk i)),I (dh (atM za i) (c.aO*c.aV)),I (atM zv i)]:=by simp[acw,Opn.av,c3]
   simp only[Int.reduceEq,Nat.reduceAdd,aN,xq_,hq_,hp,hq,e8,e9,e10,e11,f1,f2,w0,h1,him,eb7,a1,a2,a3,k1,k2,i7,l7',iM,w,aeM,jg,fK,aeL,hb1,c3,oe]
  ·have oe:(acw c zk za zv i).av=[I (oW (atM zk i)),I (dh (atM za i) (c.aO*c.aV)),I 0]:=by simp[acw,Opn.av,c2,c3]
   simp only[Nat.reduceAdd,aN,xq_,hq_,hp,hq,e8,e9,e10,e11,f1,f2,w0,h1,him,eb7,a1,a2,a3,k1,k2,i7,l7',iM,w,aeM,jg,fK,aeL,hb1,c2,c3,oe]
end
def acy {α β:Type}{f:α->Option β}:∀(xs:List α) (ys:List β),xs.length=ys.length->(∀(i:Nat) x y,xs[i]?=some x->ys[i]?=some y->f x=some y)->xs.mapM f=some ys
 |[],[],_,_=>rfl
 |x::xs,y::ys,d,h=>by
  have e:=h 0 x y rfl rfl;have:=acy (f:=f) xs ys (by simpa using d) λi a b ha hb=>h (i+1) a b ha hb;rw[zbC,e,this];rfl
 |[],_::_,d,_=>by simp at d
 |_::_,[],d,_=>by simp at d
def YM {b r n sN:Nat}{H:ah}{ps:List (List Opn)}(G:Good b H (upd nP r (Rk ps)))(R:sN<=b)(A:ps.length=n)(E:∀j,j<n->ps.getD j []=[]->ld (.ref r 0 j) H=some (zN,H)):
  bV H sN 9 (.sl r 0 0 1 n n true)=some (.vs n 1 (ps.map (vsl 3 Opn.av))):=by
 have d:∃p xs,H.get r=.blk 0 p xs/\xs.length=n:=by
  obtain⟨_,τ,F⟩:=G;obtain⟨p,xs,d,v,_⟩:=(F r _ aT).blk;exact⟨p,xs,d,by rw[v];simp[Rk,A]⟩
 obtain⟨p,xs,d,v⟩:=d;have K:b<=r:=G.le aT;refine kS V (cells:=xs) ?_ (acy _ _ (by rw[v,zaz,A]) λi x y C q=>?_)
 ·simp only[cZ,d];rw[if_pos ⟨trivial,V⟩,zaS,zay V]
 ·rw[zaw,zbO]at q;obtain⟨l,h,rfl⟩:=q;have hi:i<n:=by have:=(zaf.1 h).1;omega
  have k:ps.getD i []=l:=by rw[zaA,h];rfl
  by_cases u:l=[]
  ·have e:=E i hi (by rw[k,u]);rw[dU d,C]at e;simp only[zaj,zaa,zad,and_true]at e;rw[e,u,gI];exact iY
  ·obtain⟨T,g,w⟩:=G.seq aT (Xw (ps:=ps) (j:=i) V);rw[dU d,C]at g;simp only[zaj,zaa,zad,and_true]at g;subst g;rw[k]at w;have m:=w.is J (dF eU l);obtain⟨W,L⟩:=m.wS;rcases w.own with⟨_,e⟩|⟨r',gg,off,n',M,ex,Q,all,rfl,kr,X,_⟩
   ·have:=congrArg List.length e;rw[dF eU]at this;simp only[zan]at this;exact absurd (zaq V) u
   ·have z:n'=l.length:=m.2.2.1;subst z;rw[ET u];refine kS V L (iJ _ λy q=>?_);obtain⟨o,_,D⟩:=za5.1 q;simp only[Opn.av,zao,zaB,or_false]at D;rcases D with rfl|rfl|rfl <;> exact iY
def aqM(H:ah)(ps:List (List Opn)):UQ H (.vs ps.length 1 (ps.map (vsl 3 Opn.av))) ps:=
 ⟨_,aH.vs O,λi v l b d=>by
  rw[zaw,d]at b;cases b;exact⟨HY eU H l,λh=>by rw[h,gI]⟩⟩
section
variable {H:ah}{s:kT}{zi zw zk za zv:List Int}
def Rl {C:aA}(hCa:C 75=cl 75)(hCw:C 50=cl 50)(hCc:C 33=cl 33)(H:ah)(hbn:H.base<=H.next)(h:s.Ok zi zw zk za zv)(hi:aH ah.empty s.init 1 zi.length (zi.map I))(hw:aH ah.empty s.who 1 zw.length (zw.map I))(hk:aH ah.empty s.kinds 1 zk.length (zk.map I))(ha:aH ah.empty s.iC 1 za.length (za.map I))(hv:aH ah.empty s.bT 1 zv.length (zv.map I))
  (hc:s.init.aS=true/\s.who.aS=true/\s.kinds.aS=true/\s.iC.aS=true/\s.bT.aS=true) {mo:Nat} (hm:mo<=1000):
  ∃Hz r,r=H.next+2/\aku C (.agg s.cells) (I mo) H=some (.sl r 0 0 1 (s.cfg zi).aG.toNat (s.cfg zi).aG.toNat true,Hz)/\Good (H.next+2) Hz (upd nP r (Rk (pJ (s.cfg zi) zw zk za zv mo)))/\Step H.next H Hz/\(∀j,j<(s.cfg zi).aG.toNat->(pJ (s.cfg zi) zw zk za zv mo).getD j []=[]->ld (.ref r 0 j) Hz=some (zN,Hz)):=by
 let c:=s.cfg zi;have hck:c.ok=true:=ajn s zi;have Bd:=qP hck;let n:=c.aG.toNat;let H1:=H.new (.blk 0 24 s.cells);let H2:=H1.new (.blk 0 31 c.av);let H3:=H2.new (.blk 0 62 (dK [zN] n));let r:=H.next+2
 have hall:s.cells.all AV.aS=true:=by
  simp only[kT.cells,zb0,zcJ,hc,zcN];rfl
 have M0:Made H2 H3 (upd nP r (Rk (mJ c zw zk za zv 0))):=by
  refine kP ?_ ?_ λi cc x hcc hx=>?_
  ·rw[kZ];simp;right;rfl
  ·rw[kZ];simp[Rk,mJ,n]
  ·rw[kZ,zbB]at hx;simp only[Rk,mJ,List.map_replicate,zbB]at hcc;by_cases hin:i<n
   ·rw[if_pos hin]at hx hcc;simp only[zaa]at hx hcc;subst hx;subst hcc;exact .inr ⟨rfl,3,rfl⟩
   ·rw[if_neg hin]at hx;cases hx
 have gp:H2.get H.next=.blk 0 24 s.cells:=by
  simp only[H2];rw[bC (by simp only[H1,eF];omega)];exact aP rfl
 have gq:H2.get (H.next+1)=.blk 0 31 c.av:=aP rfl;have b2:H2.base=H.base:=rfl;have n2:H2.next=H.next+2:=rfl
 have key:∀k i,i+k=min zw.length mo->∀Hi,Good H2.next Hi (upd nP r (Rk (mJ c zw zk za zv i)))->Step H2.next H2 Hi->(∀j,j<n->(mJ c zw zk za zv i).getD j []=[]->ld (.ref r 0 j) Hi=some (zN,Hi))->
   ∃Hz,Step H2.next H2 Hz/\zL C [I mo,.ref H.next 0 0,.ref (H.next+1) 0 0,.sl r 0 0 1 n n true,I i] Hi=some (.sl r 0 0 1 n n true,Hz)/\Good H2.next Hz (upd nP r (Rk (pJ c zw zk za zv mo)))/\(∀j,j<n->(pJ c zw zk za zv mo).getD j []=[]->ld (.ref r 0 j) Hz=some (zN,Hz)):=by
  intro k
  induction k with
  |zero=>
   intro i hik Hi G st hz;have e8:ld (.ref H.next 0 8) Hi=some (s.who,Hi):=by rw[dU (by rw[st.low _ (by omega)];exact gp)];rfl
   have w0:=λH=>(xF hw H).lnS;have hi':min zw.length mo=i:=by omega
   refine⟨Hi,st,?_,by rw[pJ,hi'];exact G,by rw[pJ,hi'];exact hz⟩;rw[abb];by_cases h1:(i:Int)<zw.length
   ·have h2:¬(i:Int)<mo:=by omega
    simp only[xq_,e8,w0,h1,h2]
   ·simp only[xq_,e8,w0,h1]
  |succ k ih=>
   intro i hik Hi G st hz;obtain⟨H',t1,t2,t3,t4⟩:=UY hCa hCw h hi hw hk ha hv hck (p:=H.next) (q:=H.next+1) (r:=r) (n:=n) (by have:=st.next;omega) (by have:=st.next;omega) (by rw[st.low _ (by omega)];exact gp) (by rw[st.low _ (by omega)];exact gq) G (by rw[st.base,b2,n2];omega) (qK _ _ _ _ _ _) (by have:=Bd.aG;omega) (i:=i) (mo:=mo) (by omega) (by omega) (by omega) hz;rw[t1];exact ih (i+1) (by omega) H' t2 (st.trans t3) t4
 have g3:H3.get r=.blk 0 62 (dK [zN] n):=aP n2.symm;obtain⟨Hz,r0,r1,r2,r3⟩:=key (min zw.length mo) 0 (by omega) H3 M0.good (Step.new _ (zac _)) (λj hj _=>by
  rw[dU g3,kZ,zbB,if_pos hj];rfl)
 have hs:Step H.next H Hz:=(Step.new _ (zac _)).trans ((Step.new _ (za8 _)).trans ⟨r0.base,r0.next,λr hr=>r0.low r (by omega)⟩)
 refine⟨Hz,r,rfl,?_,r2,hs,r3⟩;have e1:=λH=>Rj H h hi hc;rw[<-hCc]at e1;have hn:=Bd.aG;have e2:=aaL (e:=62) (m:=1) (by_:=24) (z:=[zN]) (n:=c.aG) (H:=H2) rfl rfl (by omega) (by omega) (by decide);have ls:s.cells.length=12:=rfl;have lt:s.cells.take 12=s.cells:=rfl;have l0:c.av[0]?=some (I c.aG):=rfl;have cc:(AV.agg c.av).cells=c.av:=rfl;have lc:c.av.length=8:=rfl;rw[n2]at e2;simp only[H2,H1]at e2;have hnn:c.aG.toNat=n:=rfl;rw[hnn]at e2;simp only[c]at e2 l0;have hb1:H.base<=H.next+1:=by omega
 simp only[Nat.reduceLT,Nat.reduceAdd,aN,xq_,hq_,aku,aC hall,ls,lt,e1,l0,e2,hb1];exact r1
def UZ(H:ah)(h:s.Ok zi zw zk za zv)(hi:aH ah.empty s.init 1 zi.length (zi.map I))(hw:aH ah.empty s.who 1 zw.length (zw.map I))(hk:aH ah.empty s.kinds 1 zk.length (zk.map I))(ha:aH ah.empty s.iC 1 za.length (za.map I))(hv:aH ah.empty s.bT 1 zv.length (zv.map I))
  (hc:s.init.aS=true/\s.who.aS=true/\s.kinds.aS=true/\s.iC.aS=true/\s.bT.aS=true) {mo:Nat} (hm:mo<=1000):
  ∃ps,ps=pJ (s.cfg zi) zw zk za zv mo/\cl 34 [.agg s.cells,I mo] H=some (.vs ps.length 1 (ps.map (vsl 3 Opn.av)),H):=by
 refine⟨_,rfl,?_⟩;obtain⟨Hz,r,hr,e,G,st,hz⟩:=Rl (C:=cl) rfl rfl rfl H.guard (zac _) h hi hw hk ha hv hc hm;have hlen:(pJ (s.cfg zi) zw zk za zv mo).length=(s.cfg zi).aG.toNat:=qK _ _ _ _ _ _;have fz:=YM (sN:=H.next) G (by simp only[xY];omega) hlen hz;exact iy rfl rfl (as9 _ _ _ _ e) (by rw[fz,hlen])
end
def Dh(c:Cfg)(zw zk za zv:List Int):∀i,∀l∈mJ c zw zk za zv i,l.length<=24
 |0,l,h=>by
  rw[zcK h];decide
 |i+1,l,h=>by
  simp only[mJ,jD]at h;split at h
  ·rename_i b;rcases zbR h with h|rfl
   ·exact Dh c zw zk za zv i l h
   ·rw[zar];simp only[zak,zan];omega
  ·exact Dh c zw zk za zv i l h
def YN(H:ah)(n m:Int):cl 120 [I n,I m] H=some (B (jZ n m),H):=by
 refine bg rfl rfl (aoJ _ _ _ _) ?_ fC;by_cases h:1<=n
 ·simp only[xq_,abr,h,jZ,zaJ]
 ·simp only[xq_,abr,h,jZ,zaL]
def auj {c:Cfg}(b:jZ c.aO 8=true)(d:jZ c.aV 4=true):IntKind.wrap .i64 (c.aO*c.aV)=c.aO*c.aV:=by
 simp only[jZ,zah,decide_eq_true_eq]at b d;have:c.aO*c.aV<=8*4:=zbV b.2 d.2 V V;have:0<=c.aO*c.aV:=zca V V;exact wrap_i64 V V
def acz(H:ah)(c:Cfg):cl 76 [.agg c.av] H=some (B c.ok,H):=by
 refine bg rfl rfl (atK _ _ _) ?_ fC;have w:=λH n m=>YN H n m;have k:=λH=>(fH H c.init).lnS;cases b:jZ c.aG 6
 ·simp only[Nat.reduceLT,xq_,hq_,Og,aC,Cfg.av,Cfg.ok,w,b,zaL]
 cases d:jZ c.aO 8
 ·simp only[Nat.reduceLT,xq_,hq_,Og,aC,Cfg.av,Cfg.ok,w,b,d,zaL,zaJ]
 cases e:jZ c.aV 4
 ·simp only[Nat.reduceLT,xq_,hq_,Og,aC,Cfg.av,Cfg.ok,w,b,d,e,zaL,zaJ]
 cases g:jZ c.sets 4
 ·simp only[Nat.reduceLT,xq_,hq_,Og,aC,Cfg.av,Cfg.ok,w,b,d,e,g,zaL,zaJ]
 cases h:jZ c.ways 3
 ·simp only[Nat.reduceLT,xq_,hq_,Og,aC,Cfg.av,Cfg.ok,w,b,d,e,g,h,zaL,zaJ]
 cases i:jZ c.out 8
 ·simp only[Nat.reduceLT,xq_,hq_,Og,aC,Cfg.av,Cfg.ok,w,b,d,e,g,h,i,zaL,zaJ]
 cases j:jZ c.inn 8
 ·simp only[Nat.reduceLT,xq_,hq_,Og,aC,Cfg.av,Cfg.ok,w,b,d,e,g,h,i,j,zaL,zaJ]
 have hm:=auj d e;simp only[Nat.reduceLT,xq_,hq_,Og,aC,Cfg.av,Cfg.ok,w,b,d,e,g,h,i,j,k,iM,hm,zaJ]
def acA {c:Cfg}(h:c.ok=true)(a:Int):decide (c.bW a≠-1)=(decide (0<=a) && decide (a<c.aO*c.aV)):=by
 have e:=qP h;have hw:=e.aV;by_cases b:0<=a
 ·by_cases d:a<c.aO*c.aV
  ·have:0<=a / c.aV:=zde b V;have:¬(a<0∨c.aO*c.aV<=a):=V
   simp only[Cfg.bW,Cfg.iC,this,if_false,b,d,decide_true,zcz,decide_eq_true_eq];omega
  ·have:a<0∨c.aO*c.aV<=a:=V
   simp[Cfg.bW,Cfg.iC,this,d]
 ·have:a<0∨c.aO*c.aV<=a:=V
  simp[Cfg.bW,Cfg.iC,this,b]
def U0(H:ah)(c:Cfg)(h:c.ok=true)(o:Opn):cl 121 [.agg c.av,.agg o.av] H=some (B (c.right o),H):=by
 refine bg rfl rfl (aoK _ _ _ _) ?_ fC;have n:=acA h o.addr;have m:=qP h;have hm:=wrap_i64 (a:=c.aO*c.aV) (by have:=m.iC;omega) (by have:=m.iC;omega);rw[Cfg.right,n];have j:c.av[1]?=some (I c.aO):=rfl;have k:c.av[2]?=some (I c.aV):=rfl;by_cases a:1<=o.aU;rotate_left
 ·simp only[Nat.reduceLT,xq_,hq_,AQ,aC,Opn.av,a,zaL]
 by_cases b:o.aU<=4;rotate_left
 ·simp only[Nat.reduceLT,xq_,hq_,AQ,aC,Opn.av,a,b,zaL,zaJ]
 by_cases d:0<=o.addr;rotate_left
 ·simp only[Nat.reduceLT,xq_,hq_,AQ,aC,Opn.av,a,b,d,zaL,zaJ]
 by_cases e:o.addr<c.aO*c.aV;rotate_left
 ·simp only[Nat.reduceLT,xq_,hq_,AQ,aC,Opn.av,j,k,a,b,d,e,iM,hm,zaL,zaJ]
 by_cases f:o.value=0
 ·simp only[Nat.reduceLT,xq_,hq_,AQ,aC,Opn.av,j,k,a,b,d,e,f,iM,hm,zcb]
 by_cases g:o.aU=2
 ·simp only[Nat.reduceLT,Int.reduceLE,Int.reduceEq,xq_,hq_,AQ,aC,Opn.av,j,k,d,e,f,g,iM,hm,zcb,zbI]
 by_cases i:o.aU=3
 ·simp only[Nat.reduceLT,Int.reduceLE,Int.reduceEq,xq_,hq_,AQ,aC,Opn.av,j,k,d,e,f,i,iM,hm,zbI]
 ·simp only[Nat.reduceLT,xq_,hq_,AQ,aC,Opn.av,j,k,a,b,d,e,f,g,i,iM,hm,zaJ,zbI]
def ajp(c:Cfg)(l:List Opn):Bool:=decide (l.length<=24) && l.all c.right
def ak7(H:ah)(c:Cfg)(h:c.ok=true){x:AV}{ps:List (List Opn)}(hx:UQ H x ps)(hn:ps.length<1000000000)(hl:∀l∈ps,l.length<1000000000):cl 77 [.agg c.av,x] H=some (B (c.sO ps),H):=by
 refine bg rfl rfl (atL _ _ _ _) ?_ fC;let H0:=H.guard.new (.blk 0 31 c.av);have n0:H0.next=H.next+1:=rfl
 have hx1:=hx.iQ (H':=H0) (by rw[n0];omega) λr hr=>by simp only[H0];rw[bC (by rw[xY];exact hr),ad6]
 -- what a memory is that has gone on from there
 have keep:∀{H1:ah},H0.next<=H1.next->(∀r,r<H0.next->H1.get r=H0.get r)->UQ H1 x ps/\lda 8 (.ref H.next 0 0) H1=some (.agg c.av,H1)/\ld (.ref H.next 0 0) H1=some (I c.aG,H1):=by
  intro H1 a b;have g:H1.get H.next=.blk 0 31 c.av:=by rw[b _ (by omega)];exact aP rfl
  exact⟨hx1.iQ a b,gX g,by rw[dU g];rfl⟩
 have l0:c.av[0]?=some (I c.aG):=rfl;obtain⟨avc,x0,_⟩:=hx1;have e1:=x0.lnS;by_cases hc:(ps.length:Int)=c.aG;rotate_left
 ·simp only[H0]at e1;simp only[Nat.reduceLT,xq_,hq_,akE,aC (eu c),e1,l0,hc,Cfg.sO,zb3,zai]
 -- the operations of one program
 have inner:∀(i:Nat) (l:List Opn),ps[i]?=some l->l.length<1000000000->∀k j,j+k=l.length->(l.take j).all c.right=true->∀H1:ah,H.next<=H1.base->H0.next<=H1.next->(∀r,r<H0.next->H1.get r=H0.get r)->H1.base<=H1.next->∀(u v:AV),aH H0 v 3 l.length (l.flatMap Opn.av)->
   (l.all c.right=false->(xq cl [.ref H.next 0 0,x,I ps.length,I i,v,I l.length,I j] H1).map Prod.fst=some (B false))/\
   (l.all c.right=true->∃H2,H.next<=H2.base/\H0.next<=H2.next/\(∀r,r<H0.next->H2.get r=H0.get r)/\H2.base<=H2.next/\xq cl [.ref H.next 0 0,x,I ps.length,I i,v,I l.length,I j] H1=CZ cl [.ref H.next 0 0,x,I ps.length,I (i+1:Nat)] H2):=by
  intro i l hi hll k;have hip:i<ps.length:=(zaf.1 hi).1
  induction k with
  |zero=>
   intro j hj hall H1 b0 b1 b2 b3 u v hv;have h1:¬(j:Int)<l.length:=by omega
   have hal:l.all c.right=true:=by rw[zay (by omega)]at hall;exact hall
   have h6:(i:Int)+1=((i+1:Nat):Int):=by omega
   have h7:=wrap_i64 (a:=((i+1:Nat):Int)) (by omega) (by omega);refine⟨λh=>(by rw[hal]at h;cases h),λ_=>⟨H1,b0,b1,b2,b3,?_⟩⟩;rw[UD];simp only[Nat.reduceAdd,aN,xq_,hq_,h1,bI,h6,h7]
  |succ k ih=>
   intro j hj hall H1 b0 b1 b2 b3 u v hv;have h1:(j:Int)<l.length:=by omega
   have hv1:=hv.iQ (H':=H1) b1 λr _ hr=>b2 r hr;have h3:=hv1.ix (k:=.i64) (i:=(j:Int)) (by omega) h1;rw[zam]at h3;obtain⟨o,ho⟩:∃o,l[j]?=some o:=⟨_,zab (by omega)⟩
   have h4:=lX eU hv1 ho;obtain⟨_,k2,_⟩:=keep b1 b2;have h5:=λH=>U0 H c h o;have lt0:H.next<H1.next:=by omega
   have h6:(j:Int)+1=((j+1:Nat):Int):=by omega
   have h7:=wrap_i64 (a:=((j+1:Nat):Int)) (by omega) (by omega);have hz:H1.base<=H1.next:=b3
   cases hr:c.right o with
   |false=>
    have hal:l.all c.right=false:=by
     rw[zdM];exact⟨o,zas ho,by simp[hr]⟩
    refine⟨λ_=>?_,λh=>(by rw[hal]at h;cases h)⟩;rw[UD];simp only[Nat.reduceAdd,aN,xq_,hq_,h1,h3,h4,k2,h5,lt0,hr,hz,zai]
   |true=>
    have auk:(l.take (j+1)).all c.right=true:=by
     rw[zbP,ho,zbf,hall];simp[hr]
    have key:=ih (j+1) (by omega) auk (H1.new (.blk 0 61 o.av)) b0 (zbz b1) (λr hr=>by rw[bC (by omega)];exact b2 r hr) (zbz b3) u v hv;have step:xq cl [.ref H.next 0 0,x,I ps.length,I i,v,I l.length,I j] H1=xq cl [.ref H.next 0 0,x,I ps.length,I i,v,I l.length,I (j+1:Nat)] (H1.new (.blk 0 61 o.av)):=by
     rw[UD];simp only[Nat.reduceAdd,aN,xq_,hq_,h1,h3,h4,k2,h5,lt0,hr,hz,zae,bI,h6,h7]
    rw[step];exact key
 have outer:∀k i,i+k=ps.length->(ps.take i).all (ajp c)=true->∀H1:ah,H.next<=H1.base->H0.next<=H1.next->(∀r,r<H0.next->H1.get r=H0.get r)->H1.base<=H1.next->(CZ cl [.ref H.next 0 0,x,I ps.length,I i] H1).map Prod.fst=some (B (ps.all (ajp c))):=by
  intro k
  induction k with
  |zero=>
   intro i hi hall H1 b0 b1 b2 b3;have h1:¬(i:Int)<ps.length:=by omega
   rw[zay (by omega)]at hall;rw[hall,Oh];simp only[xq_,h1]
  |succ k ih=>
   intro i hi hall H1 b0 b1 b2 b3;have h1:(i:Int)<ps.length:=by omega
   obtain⟨⟨cells,x1,x2⟩,_,_⟩:=keep b1 b2;have hcl:cells.length=ps.length:=by have:=x1.1;omega
   have h3:=x1.ix (k:=.i64) (i:=(i:Int)) (by omega) h1;rw[zam]at h3;obtain⟨v,hv⟩:∃v,cells[i]?=some v:=⟨_,zab (by omega)⟩
   obtain⟨l,hpl⟩:∃l,ps[i]?=some l:=⟨_,zab (by omega)⟩
   have h4:=x1.ld (i:=i) (by omega);rw[hv]at h4;obtain⟨y1,_⟩:=x2 i v l hv hpl;have h5:=y1.lnS;have hll:=hl l (zas hpl)
   -- the same slice,at first
   have y0:aH H0 v 3 l.length (l.flatMap Opn.av):=by
    obtain⟨⟨cells',z1,z2⟩,_,_⟩:=keep (H1:=H0) (zac _) λ_ _=>rfl;have hv':cells'[i]?=some v:=by
     have:=(z1.iQ (H':=H1) b1 λr _ hr=>b2 r hr).ld (i:=i) (by omega);rw[h4]at this;cases hc':cells'[i]? with
     |none=>rw[hc']at this;cases this
     |some w=>rw[hc']at this;simp only[zaj,zaa,zad,and_true]at this;rw[this]
    exact(z2 i v l hv' hpl).1
   by_cases hlen:l.length<=24
   ·have h24:¬(24:Int)<l.length:=by omega
    have:=inner i l hpl hll l.length 0 (by omega) (by simp) H1 b0 b1 b2 b3 v v y0;cases hr:l.all c.right with
    |false=>
     have hal:ps.all (ajp c)=false:=by
      rw[zdM];exact⟨l,zas hpl,by simp[ajp,hr]⟩
     have t:=this.1 hr;rw[hal,Oh];simp only[xq_,h1,h3,h4,h5,h24];exact t
    |true=>
     obtain⟨H2,c0,c1,c2,c3,t⟩:=this.2 hr;have:=ih (i+1) (by omega) (by rw[zbP,hpl,zbf,hall];simp[ajp,hlen,hr]) H2 c0 c1 c2 c3;rw[Oh];simp only[xq_,h1,h3,h4,h5,h24];have t':xq cl [.ref H.next 0 0,x,I ps.length,I i,v,I l.length,I 0] H1=CZ cl [.ref H.next 0 0,x,I ps.length,I (i+1:Nat)] H2:=t;rw[t'];exact this
   ·have h24:(24:Int)<l.length:=by omega
    have hal:ps.all (ajp c)=false:=by
     rw[zdM];exact⟨l,zas hpl,by simp[ajp,hlen]⟩
    rw[hal,Oh];simp only[xq_,h1,h3,h4,h5,h24]
 have fin:=outer ps.length 0 (by omega) (by simp) H0 (zac _) (zac _) (λ_ _=>rfl) (by rw[n0];show H.next<=_;omega);have eo:c.sO ps=ps.all (ajp c):=by simp only[Cfg.sO,hc,decide_true,zcN];rfl
 rw[eo];simp only[H0]at e1 fin;simp only[Nat.reduceLT,xq_,hq_,akE,aC (eu c),e1,l0,hc];rw[<-hc];exact fin
def YO {β:Type}{w:Option Nat}{H H':ah}{k:Option β}(h:∀r,w=some r->H'.get r=H.get r):ck w H H' k=k:=if_pos h
def uq {H1:ah}{n d m k:Nat}{x:AV}{cells:List AV}(c:Own n H1 x m cells)(hm:0<m)(b:cells.length=k*m)(i:∀y∈cells,bV H1 n d y=some y)(hk:k≠0):bV H1 n (d+1) x=some (.vs k m cells):=by
 rcases c with⟨rfl,rfl⟩|⟨r,g,off,n',e,ex,q,all,rfl,j,u,k4,o,v,w,rfl⟩
 ·simp only[zan]at b;rcases zdd.1 b.symm with h|h <;> omega
 ·have p:n'*m<=e*m:=zaF _ k4;rw[zau,zaR,zbm V]at b;have:n'=k:=zbM hm b;subst this;exact kS j (cells:=(all.drop off).take (n'*m)) (by simp only[cZ,o];rw[if_pos ⟨trivial,V⟩]) (iJ _ i)
def Rn {c:Cfg}{ak:Int}(h0:0<=ak)(b:ak<c.aO){i:Nat}(hi:i<c.aV.toNat):(c.first ak)[i]?=some (c.init.getD ((ak*c.aV).toNat+i) 0):=by
 unfold Cfg.first
 rw[if_neg V,zaw,zbi hi];rfl
def Bl {c:Cfg}{ak:Int}(h0:0<=ak)(b:ak<c.aO):(c.first ak).length=c.aV.toNat:=by
 unfold Cfg.first
 rw[if_neg V];simp
def YP(H:ah)(c:Cfg)(h:c.ok=true)(ak:Int)(h0:0<=ak)(h1:ak<c.aO):cl 173 [.agg c.av,I ak] H=some (dat (c.first ak),H):=by
 have Bd:=qP h;have hw:=Bd.aV;have hlw:0<=ak*c.aV:=zca h0 (by omega);have avS:ak*c.aV<=8*4:=zbV (by have:=Bd.aO;omega) hw.2 (by omega) (by omega);have w:=wrap_i64 (a:=ak*c.aV) (by omega) (by omega);let H0:=H.guard.new (.blk 0 31 c.av);have g0:H0.get H.next=.blk 0 31 c.av:=aP rfl
 have key:∀k i,i+k=c.aV.toNat->∀(H1:ah) (x:AV),H.next<=H1.next->H1.base=H.next->H1.get H.next=.blk 0 31 c.av->Own (H.next+1) H1 x 1 (((c.first ak).take i).map I)->H.next+1<=H1.next->
   ∃H2 y,Fz cl [I ak,.ref H.next 0 0,x,I i] H1=some (y,H2)/\Own (H.next+1) H2 y 1 ((c.first ak).map I):=by
  intro k
  induction k with
  |zero=>
   intro i hi H1 x n1 b1 g1 O n2;have l2:ld (.ref H.next 0 2) H1=some (I c.aV,H1):=by rw[dU g1];rfl
   have hn:¬(i:Int)<c.aV:=by omega
   rw[zay (by rw[Bl h0 h1];omega)]at O;refine⟨H1,x,?_,O⟩;rw[WY];simp only[xq_,l2,hn]
  |succ k ih=>
   intro i hi H1 x n1 b1 g1 O n2;have l2:ld (.ref H.next 0 2) H1=some (I c.aV,H1):=by rw[dU g1];rfl
   have l7:ld (.ref H.next 0 7) H1=some (dat c.init,H1):=by rw[dU g1];rfl
   have hn:(i:Int)<c.aV:=by omega
   have e1:=(fH H1 c.init).lnS;have w2:=wrap_i64 (a:=ak*c.aV+i) (by omega) (by omega);have h6:(i:Int)+1=((i+1:Nat):Int):=by omega
   have h7:=wrap_i64 (a:=((i+1:Nat):Int)) (by omega) (by omega);have hg:=Rn (c:=c) (ak:=ak) h0 h1 (i:=i) (by omega);have tail:∀v:Int,v=c.init.getD ((ak*c.aV).toNat+i) 0->∃H2 y,FB cl (I ak) (.ref H.next 0 0) x (I i) (I v) H1=some (y,H2)/\Own (H.next+1) H2 y 1 ((c.first ak).map I):=by
    intro v hv;have eb:bs 22 1 [(0,I v)] H1=some (.sl H1.next 0 0 1 1 1 true,H1.new (.blk 0 3 [I v])):=(Nz (by decide)).trans (jP rfl rfl rfl);obtain⟨x',H2,a1,a2,a3⟩:=(O.new (.blk 0 3 [I v])).step (n:=i) (k:=1) (e:=3) (by_:=8) (y:=.sl H1.next 0 0 1 1 1 true) (new:=[I v]) (by rw[eF];omega) (by rw[jh,b1];omega) (by decide) (by rw[zaz,zau,Bl h0 h1];omega) (jX rfl) rfl (by unfold most;omega) (by unfold most;omega);have O2:Own (H.next+1) H2 x' 1 (((c.first ak).take (i+1)).map I):=by
     rw[zbP,hg,zbn];rw[hv]at a2;exact a2
    obtain⟨H3,y,r1,r2⟩:=ih (i+1) (by omega) H2 x' (by have:=a3.next;rw[eF]at this;omega) (by rw[a3.base,jh,b1]) (by rw[a3.low _ (by omega),bC (by omega),g1]) O2 (by have:=a3.next;rw[eF]at this;omega);refine⟨H3,y,?_,r2⟩;simp only[xq_,FB,eb,a1,bI,h6,h7,r1]
   rw[WY];by_cases hc:ak*c.aV+i<c.init.length
   ·have e2:=(fH H1 c.init).ix (k:=.i64) (i:=ak*c.aV+i) (by omega) hc;have e3:=(fH H1 c.init).ld (i:=(ak*c.aV+i).toNat) (by omega);have e4:(c.init.map I)[(ak*c.aV+i).toNat]?=some (I (c.init.getD ((ak*c.aV).toNat+i) 0)):=by
     have:(ak*c.aV+i).toNat=(ak*c.aV).toNat+i:=by omega
     rw[this,zaw,zab (by omega)];simp[List.getD,zab (show(ak*c.aV).toNat+i<c.init.length by omega)]
    rw[e4]at e3;obtain⟨H2,y,r1,r2⟩:=tail _ rfl;refine⟨H2,y,?_,r2⟩;simp only[xq_,l2,hn,iM,w,bI,w2,l7,e1,hc,e2,e3,r1]
   ·obtain⟨H2,y,r1,r2⟩:=tail 0 (by
     have:c.init.length<=(ak*c.aV).toNat+i:=by omega
     simp[List.getD,zaI this])
    refine⟨H2,y,?_,r2⟩;simp only[xq_,l2,hn,iM,w,bI,w2,l7,e1,hc,r1]
 obtain⟨H2,y,r1,r2⟩:=key c.aV.toNat 0 (by omega) H0 zN (by show H.next<=H.next+1;omega) rfl g0 (.inl ⟨rfl,by simp⟩) (zac _);refine iy rfl rfl (apx _ _ _ _ (r:=(y,H2)) ?_) ?_
 ·have n0:¬ak<0:=by omega
  have n1:¬c.aO<=ak:=by omega
  have l1:c.av[1]?=some (I c.aO):=rfl;simp only[Nat.reduceLT,xq_,hq_,aiE,aC (eu c),n0,n1,l1];exact r1
 ·rw[qH (OC h h0 h1)];have r3:Own H.next H2 y 1 ((c.first ak).map I):=by
   rcases r2 with r2|⟨r,g,off,n,cap,ex,ty,all,a0,a1,a2⟩
   ·exact .inl r2
   ·exact .inr ⟨r,g,off,n,cap,ex,ty,all,a0,by omega,a2⟩
  exact uq r3 (by decide) (by simp) (λy hy=>rU _ y hy _ _) (λe=>OC h h0 h1 (zaq e))
def acB(H:ah)(sets ways:Int)(h:1<=sets)(g:1<=ways):∃H' q,cl 122 [I sets,I ways] H=some (.ref q 0 0,H')/\Made H H' (upd nP q (CS ⟨[],sets,ways,0⟩ [])):=by
 refine⟨_,H.next,bn rfl rfl (aoL _ _ _ _ (r:=(_,H.new (.blk 0 265 [I sets,I ways,zI,zN]))) ?_),kP rfl rfl λi c x hc b=>?_⟩
 ·have e:max sets (1:Int)=sets:=V
  have d:max ways (1:Int)=ways:=V
  simp only[Nat.reduceLT,Nat.reduceAdd,Nat.reduceLeDiff,aN,xq_,hq_,ahX,Nu,e,d,am9,jg,fK,ag9,aC]
 ·match i with
  |0=>left;cases hc;cases b;rfl
  |1=>left;cases hc;cases b;rfl
  |2=>left;cases hc;cases b;rfl
  |3=>right;cases hc;cases b;exact⟨rfl,6,rfl⟩
  |i+4=>cases hc
def ak8(H:ah)(c:Cfg)(h:c.ok=true):∃H' f,cl 78 [.agg c.av] H=some (.ref f 0 0,H')/\Made H H' (upd nP f (Yz c (List.replicate (4*c.aG.toNat) []))):=by
 have D:=qP h;have Q:=D.aG;let H1:=H.new (.blk 0 31 c.av);let A:=H1.new (.blk 0 350 (dK [zN,zN,zN,zN] c.aG.toNat));let S:AV:=.sl (H.next+1) 0 0 4 c.aG.toNat c.aG.toNat true;let d:=A.new (.blk 0 206 (c.av++[S]));have u:=aaL (e:=350) (m:=4) (by_:=96) (z:=[zN,zN,zN,zN]) (n:=c.aG) (H:=H1) rfl rfl V V J;have E:c.av[0]?=some (I c.aG):=rfl;have g:∀n,(dK [zN,zN,zN,zN] n).length=n*4/\∀(j:Nat) x,(dK [zN,zN,zN,zN] n)[j]?=some x->x=zN:=by
  intro n
  induction n with
  |zero=>exact⟨rfl,λj x b=>by simp[dK]at b⟩
  |succ n C=>
   refine⟨by rw[dK,zar,C.1];simp;omega,λj x b=>?_⟩;rw[dK]at b;have:=zas b;rcases zaQ.1 this with hm|hm
   ·simpa using hm
   ·obtain⟨k,hk,v⟩:=zdB hm;exact C.2 k x (by rw[zab hk,v])
 refine⟨d,H.next+2,bn rfl rfl (atO _ _ _ (r:=(_,d)) ?_),⟨by show H.next<=H.next+3;omega,rfl,λr F=>?_,by show H.next<=H.next+3;omega,λr=>if r=H.next+2 then some (r,0,0,0)else if r=H.next+1 then some (H.next+2,9,0,0)else none,λq cs o=>?_⟩⟩
 ·have e:bd 206 [(0,.agg c.av),(1,S)]=some (.agg (c.av++[S])):=by
   simp only[xq_,am5,jg,fK,ag5,Cfg.av,eH];rfl
  have G:(c.av++[S]).all AV.aS=true:=by rw[zbf,eu];rfl
  have K:=gX (H:=H1) (r:=H.next) (c:=c) (aP rfl);have L:H1.next=H.next+1:=rfl
  simp only[L]at u;simp only[H1]at u K;simp only[Nat.reduceLT,xq_,hq_,aoj,aC (eu c),E,u,e,aC G,S];rfl
 ·simp only[d,A,H1];rw[bC (by simp only[eF];omega),bC (by simp only[eF];omega),bC F]
 ·unfold upd at o;split at o
  ·rename_i e;subst e;cases o;refine⟨O,V,by show _<H.next+3;omega,wu (ty:=206) (xs:=c.av++[S]) (aP rfl) J,206,c.av++[S],aP rfl,by simp[Yz,Cfg.av],by rw[zbf,eu];rfl,λi R x hc b=>?_⟩;rcases zaU i 8 with hi|hi
   ·rw[Yz,zaG (by simp[Cfg.av];omega),zaw]at hc;rw[zaG (by simp[Cfg.av];omega)]at b;rw[b]at hc;cases hc;exact rfl
   ·have w:i=8:=by
     have:=(zaf.1 b).1;simp[Cfg.av]at this;omega
    subst w;cases hc;cases b;refine⟨dK [zN,zN,zN,zN] c.aG.toNat,.inr ⟨H.next+1,0,0,c.aG.toNat,c.aG.toNat,true,350,_,rfl,O,V,by show _<H.next+3;omega,zac _,by simp only[d];rw[bC (by show _<H.next+2;omega)];exact aP rfl,by rw[(g _).1];omega,xZ rfl _,?_⟩,by rw[(g _).1,zcw];omega,λj cells y p M=>?_⟩
    ·rw[zaS,zay (by rw[(g _).1];omega)]
    ·rw[zbB]at p;split at p
     ·cases p;exact .inl ⟨(g _).2 _ _ M,rfl⟩
     ·cases p
  ·cases o
def jF(c:Cfg)(n:Nat):List Row:=(List.range n).map λ(i:Nat)=>(⟨0,-1,c.first (i:Int)⟩:Row)
def U1(c:Cfg)(n:Nat):jF c (n+1)=jF c n++[⟨0,-1,c.first n⟩]:=by
 simp[jF,zbX]
def acC(H:ah)(hb:H.base<=H.next)(c:Cfg)(h:c.ok=true)(me:Int):∃H' q,cl 123 [.agg c.av,I me] H=some (.ref q 0 0,H')/\Made H H' (upd nP q (pF c me ((Ir.new c).dR.flatMap Row.av) ⟨[],[]⟩)):=by
 have Bd:=qP h;have hl:=Bd.aO;let H1:=H.new (.blk 0 31 c.av);let xs:List AV:=c.av++[I me,zN,zN,zN]
 let H2:=H1.new (.blk 0 272 xs);let f:=H.next+1
 have ax:xs.all AV.aS=true:=by simp only[xs,zbf,eu];rfl
 have M0:Made H1 H2 (upd nP f (pF c me [] ⟨[],[]⟩)):=kP ax (by simp[xs,pF]) λi cc x hc hx=>by
  rcases zaU i 8 with hi|hi
  ·left;rw[pF,zaG (by simp[Cfg.av];omega),zaw]at hc;rw[zaG (by simp[Cfg.av];omega)]at hx;rw[hx]at hc;exact(zaW hc).symm
  ·obtain⟨j,rfl⟩:∃j,i=8+j:=⟨i-8,by omega⟩
   match j with
   |0=>left;cases hc;cases hx;rfl
   |1=>right;cases hc;cases hx;exact⟨rfl,3,rfl⟩
   |2=>right;cases hc;cases hx;exact⟨rfl,2,rfl⟩
   |3=>right;cases hc;cases hx;exact⟨rfl,3,rfl⟩
   |j+4=>exfalso;have:=(zaf.1 hx).1;simp[xs,Cfg.av]at this;omega
 have key:∀k i,i+k=c.aO.toNat->∀Hi,Made H1 Hi (upd nP f (pF c me ((jF c i).flatMap Row.av) ⟨[],[]⟩))->
   ∃H',E9 cl [.ref H.next 0 0,.ref f 0 0,I i] Hi=some (.ref f 0 0,H')/\Made H1 H' (upd nP f (pF c me ((jF c c.aO.toNat).flatMap Row.av) ⟨[],[]⟩)):=by
  intro k
  induction k with
  |zero=>
   intro i hi Hi M;have h1:¬(i:Int)<c.aO:=by omega
   have g:Hi.get H.next=.blk 0 31 c.av:=by rw[M.same _ (by show H.next<H.next+1;omega)];exact aP rfl
   have l1:ld (.ref H.next 0 1) Hi=some (I c.aO,Hi):=by rw[dU g];rfl
   rw[WH];refine⟨Hi,?_,by rw[show c.aO.toNat=i by omega];exact M⟩;simp only[Int.reduceNeg,xq_,l1,h1]
  |succ k ih=>
   intro i hi Hi M;have h1:(i:Int)<c.aO:=by omega
   have h6:(i:Int)+1=((i+1:Nat):Int):=by omega
   have h7:=wrap_i64 (a:=((i+1:Nat):Int)) (by omega) (by omega);have n1:H1.next=H.next+1:=rfl
   have g:Hi.get H.next=.blk 0 31 c.av:=by rw[M.same _ (by omega)];exact aP rfl
   have l1:ld (.ref H.next 0 1) Hi=some (I c.aO,Hi):=by rw[dU g];rfl
   have l8:=gX g;obtain⟨x,hx,cx⟩:=M.good.seq aT (i:=9) rfl;have e1:=YP Hi.guard c h i (by omega) h1;let r:Row:=⟨0,-1,c.first i⟩
   have hlen:((jF c i).flatMap Row.av).length=i*3:=by rw[dF CG];simp[jF]
   have eb:=jP (e:=274) (m:=3) (z:=[zI,zI,zN]) (v:=.agg r.av) (H:=Hi) rfl rfl (Ig r);simp only[eH]at eb;obtain⟨x',He,Hf,t1,t2,t3,t4⟩:=(M.good.new (.blk 0 274 r.av)).append (e:=274) (by_:=40) (by rw[jh,M.base,n1];simp only[H1,jh];omega) aT (i:=9) rfl (by decide) hlen (cx.new _) (jX (ex:=true) (n:=1) (m:=3) (l:=r.av) rfl) (Ig r) (by unfold most;omega) (by unfold most;omega);have Mf:Made H1 Hf (upd nP f (pF c me ((jF c (i+1)).flatMap Row.av) ⟨[],[]⟩)):=by
    refine((M.new _).step t3 t4).as ?_;rw[pz,U1,zbx]
    congr 1
   obtain⟨H',r1,r2⟩:=ih (i+1) (by omega) Hf Mf;refine⟨H',?_,r2⟩;rw[WH];have er:bd 274 [(0,I 0),(1,I (-1)),(2,dat (c.first i))]=some (.agg r.av):=by
    simp only[Int.reduceNeg,xq_,anb,jg,fK,ahb,Ic];rfl
   simp only[Int.reduceNeg,Nat.reduceLeDiff,xq_,hq_,l1,h1,hx,l8,e1,er,amM,zbk,eb,t1,t2,bI,h6,h7,r1]
 obtain⟨H',r1,r2⟩:=key c.aO.toNat 0 (by omega) H2 M0;refine⟨H',f,bn rfl rfl (aoM _ _ _ _ (r:=(_,H')) ?_),r2.wz⟩;have e:bd 272 [(0,.agg c.av),(1,I me)]=some (.agg xs):=by
  simp only[xq_,ana,jg,fK,aha,Cfg.av,eH];rfl
 have e0:=gX (H:=H1) (r:=H.next) (c:=c) (aP rfl);simp only[H1]at e0;simp only[Nat.reduceLT,xq_,hq_,ahZ,aC (eu c),e0,e,aC ax];exact r1
def ak9 {H:ah}{v:AV}{l:List Opn}(hv:aH H v 3 l.length (l.flatMap Opn.av))(hl:l.length<1000000):
  ∃y H',app 61 3 24 zN v H=some (y,H')/\Own H.next H' y 3 (l.flatMap Opn.av)/\Step H.next H H':=by
 have O:Own H.next H zN 3 []:=.inl ⟨rfl,rfl⟩
 have hz:most=most:=rfl;obtain⟨c1,c2⟩:=hv.wS;by_cases h0:l=[]
 ·subst h0;refine⟨zN,H,?_,.inl ⟨rfl,rfl⟩,Step.refl _ _⟩;simp only[app,c1,c2,dW];rfl
 ·have hn:l.length≠0:=λe=>h0 (zaq e);refine⟨_,_,Ui hv (EU oz l) hn (by unfold most;omega) (by unfold most;omega),.inr ⟨H.next,0,0,l.length,l.length,false,61+gV,l.flatMap Opn.av,rfl,zac _,by rw[eF];omega,zac _,aP rfl,by rw[dF eU];omega,EU oz l,?_⟩,Step.new _ (zac _)⟩;rw[zaS,zay (by rw[dF eU];exact zac _)]
def afA {H H1:ah}{ty:TypeId}{xs:List AV}{cs:List Cell}{i0 m0:Nat}{l0:List AV}{y:AV}(s:Step H.next H H1)(hc:xs.all AV.aS=true)(o:xs.length=cs.length)(O:Own H.next H1 y m0 l0)
  (h:∀(i:Nat) (c:Cell) (x:AV),cs[i]?=some c->xs[i]?=some x->c=.av x∨(x=zN/\∃m,c=.seq m [])∨(i=i0/\x=y/\c=.seq m0 l0)) (p:ty<gV:=by decide):
  Made H (H1.new (.blk 0 ty xs)) (upd nP H1.next cs):=by
 have n1:=s.next
 refine⟨by rw[eF];omega,s.base,λr u=>by rw[bC V,s.low r u],by rw[eF];omega,λr=>if r=H1.next then some (r,0,0,0)else if iE y=some r then some (H1.next,i0+1,0,0)else none,λq v b=>?_⟩;unfold upd at b;split at b
 ·rename_i e;subst e;cases b;refine⟨ZZ,n1,by rw[eF];omega,wu (xs:=xs) (aP rfl) p,ty,xs,aP rfl,o,hc,λi c x d w=>?_⟩;rcases h i c x d w with rfl|⟨rfl,m,rfl⟩|⟨rfl,rfl,rfl⟩
  ·exact rfl
  ·exact .inl ⟨rfl,rfl⟩
  ·rcases O with O|⟨r,g,off,n,j,ex,k,all,rfl,z,A,k4,C,D⟩
   ·exact .inl O
   ·exact .inr ⟨r,g,off,n,j,ex,k,all,rfl,by simp only[iE];rw[if_neg V,if_pos trivial],z,by rw[eF];omega,k4,by rw[bC A];exact C,D⟩
 ·cases b
def afB(H:ah)(c:Cfg)(h:c.ok=true)(me:Int)(l:List Opn)(hl:l.length<1000000){x:AV}(hx:aH H x 3 l.length (l.flatMap Opn.av)):
  ∃H' a g',cl 79 [.agg c.av,I me,x] H=some (.ref (a 0) 0 0,H')/\Made H H' g'/\oC g' a c me (.new c l):=by
 have Bd:=qP h;let H1:=H.new (.blk 0 31 c.av);obtain⟨H2',q1,e1,M1⟩:=acB H1.guard c.sets c.ways Bd.sets.1 Bd.ways.1;obtain⟨H2,e1,M1⟩:=drawn e1 M1;obtain⟨H3',q2,e2,M2⟩:=acC H2.guard (zac _) c h me;obtain⟨H3,e2,M2⟩:=drawn e2 M2;have hx3:aH H3 x 3 l.length (l.flatMap Opn.av):=((hx.new (.blk 0 31 c.av)).iQ M1.next λr _ hr=>M1.same r hr).iQ M2.next λr _ hr=>M2.same r hr
 obtain⟨y,H4,e3,O,s4⟩:=ak9 hx3 hl;let a:=six H4.next q1 q2 0 0 0
 let xs:List AV:=c.av++[I me,.ref q1 0 0,.ref q2 0 0,y,B false,zN,B false,zI,zI,zI,zI,zI,zI,zN,zI,zI,I 0]
 have hy:One y:=by
  rcases O with⟨rfl,_⟩|⟨r,g,off,n,cap,ex,ty',all,rfl,_⟩
  ·exact qx
  ·exact wU
 have ax:xs.all AV.aS=true:=by simp only[xs,zbf,eu,zb0,hy.2];rfl
 have M3:Made H3 (H4.new (.blk 0 213 xs)) (upd nP H4.next (DZ a c me (.new c l) [zI,zI,zI,zI,zI,zI,zN,zI,zI])):=by
  refine afA (i0:=11) (m0:=3) (l0:=l.flatMap Opn.av) (y:=y) s4 ax (by simp[xs,DZ]) O λi cc x hc hx=>?_;rcases zaU i 8 with hi|hi
  ·left;rw[DZ,zba,zba,zaG (by simp[Cfg.av];omega),zaw]at hc;rw[zaG (by simp[Cfg.av];omega)]at hx;rw[hx]at hc;exact(zaW hc).symm
  ·obtain⟨j,rfl⟩:∃j,i=8+j:=⟨i-8,by omega⟩
   match j with
   |0|1|2|4|6|7|8|9|10|11|12|13|14|15|16=>left;cases hc;cases hx;rfl
   |3=>right;right;cases hc;cases hx;exact⟨rfl,rfl,rfl⟩
   |5=>right;left;cases hc;cases hx;exact⟨rfl,1,rfl⟩
   |j+17=>exfalso;have:=(zaf.1 hx).1;simp[xs,Cfg.av]at this;omega
 have g1:H1.get H.next=.blk 0 31 c.av:=aP rfl
 have l1:H.next<H1.next:=by simp only[H1,eF];omega
 have l2:H.next<H2.next:=zax l1 M1.next
 have g2:H2.get H.next=.blk 0 31 c.av:=by rw[M1.same _ l1,g1]
 have g3:H3.get H.next=.blk 0 31 c.av:=by rw[M2.same _ l2,g2]
 have l3:H.next<H3.next:=zax l2 M2.next
 have g4:H4.get H.next=H3.get H.next:=s4.low _ l3
 have b1:=gX g1;have b2:=gX g2;have ec:∀{β:Type} (k:Option β),ck (bQ (.ref H.next 0 0)) H3 H4 k=k:=λk=>YO λr hr=>by cases hr;exact g4
 have G12:=M1.good.merge M2;refine⟨_,a,_,bn rfl rfl (atQ _ _ _ _ _ (r:=(_,H4.new (.blk 0 213 xs))) ?_),((M1.trans M2).trans M3).wz,?_⟩
 ·have e:bd 213 [(0,.agg c.av),(1,I me),(2,.ref q1 0 0),(3,.ref q2 0 0),(4,y)]=some (.agg xs):=by
   simp only[xq_,am6,jg,fK,ag6,Cfg.av,eH,hy.1];rfl
  have l3:c.av[3]?=some (I c.sets):=rfl;have l4:c.av[4]?=some (I c.ways):=rfl;simp only[H1]at e1 b1;simp only[Nat.reduceLT,xq_,hq_,aok,aC (eu c),b1,l3,l4,e1,b2,e2,e3,e,aC ax,ec];rfl
 ·have z:QG (asF (cup H3.next (cup H2.next (upd nP q1 (CS ⟨[],c.sets,c.ways,0⟩ [])) (upd nP q2 (pF c me ((Ir.new c).dR.flatMap Row.av) ⟨[],[]⟩))) (upd nP H4.next (DZ a c me (.new c l) [zI,zI,zI,zI,zI,zI,zN,zI,zI])))) (Ir.new c).dR ((Ir.new c).dR.flatMap Row.av):=QG.of λr _=>akd r;exact⟨⟨[zI,zI,zI,zI,zI,zI,zN,zI,zI],⟨zN,.inl (by simp[Iu.new,bU.zero,dat,gI]),by simp[Iu.new,bU.zero,bU.avx]⟩,lT M3.good aT (zac _)⟩,⟨[],.nil,jR G12 (jR M1.good aT rfl) rfl⟩,⟨_,z,jR G12 (lT M2.good aT (zac _)) rfl⟩⟩
def oC.avd {g:bF}{a:Nat->Nat}{c:Cfg}{me:Int}{n:Iu}(h:oC g a c me n){s:Nat}(b:s<3):∃l,g (a s)=some l:=by
 obtain⟨⟨_,_,d⟩,⟨_,_,e⟩,⟨_,_,i⟩⟩:=h
 match s,b with
 |0,_=>exact⟨_,d⟩
 |1,_=>exact⟨_,e⟩
 |2,_=>exact⟨_,i⟩
def oC.ext {g g':bF}{a:Nat->Nat}{c:Cfg}{me:Int}{n:Iu}(h:oC g a c me n)(hd:∀q cs,g q=some cs->¬aaR cs->g' q=some cs)(b:∀s,s<3->g' (a s)=g (a s)):oC g' a c me n:=by
 obtain⟨⟨d,⟨x,m,o⟩,p⟩,⟨cells,k,u⟩,⟨dR,r,v⟩⟩:=h;exact⟨⟨d,⟨x,m.sub hd,o⟩,by rw[b 0 V,p]⟩,⟨cells,k.mono λe cs _ ⟨x,i,j⟩=>⟨x,i.sub hd,j⟩,by rw[b 1 V,u]⟩,⟨dR,r.mono λe cs _ ⟨x,i,j⟩=>⟨x,i.sub hd,j⟩,by rw[b 2 V,v]⟩⟩
def oC.inj {g:bF}{a:Nat->Nat}{c:Cfg}{me:Int}{n:Iu}(h:oC g a c me n){s t:Nat}(b:s<3)(i:t<3)(e:a s=a t):s=t:=by
 obtain⟨⟨d,⟨x,_,rfl⟩,j⟩,⟨_,_,k⟩,⟨_,_,m⟩⟩:=h;have o:(g (a s)).map List.length=(g (a t)).map List.length:=by rw[e]
 match s,b,t,i with
 |0,_,0,_|1,_,1,_|2,_,2,_=>rfl
 |0,_,1,_|0,_,2,_|1,_,0,_|1,_,2,_|2,_,0,_|2,_,1,_=>simp[j,k,m,DZ,CS,pF,bU.avx,Cfg.av]at o
def oC.lens {g:bF}{a:Nat->Nat}{c:Cfg}{me:Int}{n:Iu}(h:oC g a c me n){s:Nat}(b:s<3):∃l,g (a s)=some l/\aaR l/\(l.length=25∨l.length=4∨l.length=12):=by
 obtain⟨⟨d,⟨x,_,rfl⟩,i⟩,⟨_,_,j⟩,⟨_,_,k⟩⟩:=h
 match s,b with
 |0,_=>exact⟨_,i,⟨.av (.ref (a 1) 0 0),by simp[DZ],λn e=>by cases e⟩,by left;simp[DZ,bU.avx,Cfg.av]⟩
 |1,_=>exact⟨_,j,⟨.seq 6 _,by simp[CS];rfl,λn e=>by cases e⟩,by right;left;simp[CS]⟩
 |2,_=>exact⟨_,k,⟨.seq 3 _,by simp[pF];left;rfl,λn e=>by cases e⟩,by right;right;simp[pF,Cfg.av]⟩
def YQ {f:Nat}{N:Nat->Nat->Nat}{c:Cfg}{n:Nat}{ev:List Evn}:aaR (qE f N c n ev):=⟨.av (.ref f 0 0),by simp[qE],λn e=>by cases e⟩
def U2(H:ah)(hb:H.base<=H.next)(c:Cfg)(h:c.ok=true){x:AV}{ps:List (List Opn)}(hx:UQ H x ps)(hp:c.sO ps=true):
  ∃H' q f N g',cl 35 [.agg c.av,x] H=some (.tup [.ref q 0 0,B true],H')/\Made H H' g'/\aaS g' q f N (.new c ps):=by
 have Bd:=qP h;obtain⟨hp1,hp2⟩:=Bj hp;have hn:=Bd.aG;let H1:=H.new (.blk 0 31 c.av);have n1:H1.next=H.next+1:=rfl
 have g1:H1.get H.next=.blk 0 31 c.av:=aP rfl
 have b1:=gX g1;have e1:=acz H1 c;rw[h]at e1;have e2:=ak7 H1 c h (hx.iQ (H':=H1) (by omega) λr hr=>bC hr) (by omega) λl hl=>by have:=hp2 l hl;omega
 rw[hp]at e2;obtain⟨H2',f,e4,M1⟩:=ak8 H1.guard c h;obtain⟨H2,e4,M1⟩:=drawn e4 M1;let K:=H2.next
 let xs:List AV:=c.av++[.ref f 0 0,zN,zN]
 have hall:xs.all AV.aS=true:=by simp only[xs,zbf,eu];rfl
 have bx:∀H':ah,(∀r,r<H1.next->H'.get r=H1.get r)->H'.get H.next=.blk 0 31 c.av:=λH' hs=>by rw[hs _ (by omega),g1]
 have M2:Made H2 (H2.new (.blk 0 157 xs)) (upd nP K (qE f (λ_ _=>0) c 0 [])):=by
  refine kP hall (by simp[xs,qE]) λi cc y hc hy=>?_;rcases zaU i 8 with hi|hi
  ·left;rw[qE,zaG (by simp[Cfg.av];omega),zaw]at hc;rw[zaG (by simp[Cfg.av];omega)]at hy;rw[hy]at hc;exact(zaW hc).symm
  ·obtain⟨j,rfl⟩:∃j,i=8+j:=⟨i-8,by omega⟩
   match j with
   |0=>left;cases hc;cases hy;rfl
   |1=>right;cases hc;cases hy;exact⟨rfl,1,rfl⟩
   |2=>right;cases hc;cases hy;exact⟨rfl,4,rfl⟩
   |j+3=>exfalso;have:=(zaf.1 hy).1;simp[xs,Cfg.av]at this;omega
 have M0:=M1.add M2;let g0:=upd (upd nP f (Yz c (List.replicate (4*c.aG.toNat) []))) K (qE f (λ_ _=>0) c 0 []);have key:∀k i,i+k=ps.length->∀Hi gi N,Made H1 Hi gi->gi K=some (qE f N c i [])->(∀q,q<K->gi q=g0 q)->(∀(j:Nat) l,j<i->ps[j]?=some l->oC gi (N j) c j (.new c l))->asH N i->
   ∃H' g' N',N9 cl [x,.ref H.next 0 0,.ref K 0 0,I i] Hi=some (.tup [.ref K 0 0,B true],H')/\Made H1 H' g'/\g' K=some (qE f N' c ps.length [])/\(∀q,q<K->g' q=g0 q)/\(∀(j:Nat) l,j<ps.length->ps[j]?=some l->oC g' (N' j) c j (.new c l))/\asH N' ps.length:=by
  intro k
  induction k with
  |zero=>
   intro i hi Hi gi N M hm hlow hnd hj;have l0:ld (.ref H.next 0 0) Hi=some (I c.aG,Hi):=by rw[dU (bx Hi M.same)];rfl
   have h1:¬(i:Int)<c.aG:=by omega
   have hi':ps.length=i:=by omega
   rw[abd];refine⟨Hi,gi,N,?_,M,by rw[hi'];exact hm,hlow,by rw[hi'];exact hnd,by rw[hi'];exact hj⟩;simp only[xq_,l0,h1]
  |succ k ih=>
   intro i hi Hi gi N M hm hlow hnd hj;have l0:ld (.ref H.next 0 0) Hi=some (I c.aG,Hi):=by rw[dU (bx Hi M.same)];rfl
   have h1:(i:Int)<c.aG:=by omega
   have h6:(i:Int)+1=((i+1:Nat):Int):=by omega
   have h7:=wrap_i64 (a:=((i+1:Nat):Int)) (by omega) (by omega);have hxi:=hx.iQ (H':=Hi) (zav (by omega) M.next) λr hr=>by rw[M.same r (by omega)];exact bC hr
   obtain⟨cells,x1,x2⟩:=hxi;have hcl:cells.length=ps.length:=by have:=x1.1;omega
   have s1:=x1.ix (k:=.i64) (i:=(i:Int)) (by omega) (by omega);rw[zam]at s1;have s2:=x1.ld (i:=i) (by omega);obtain⟨v,hv⟩:∃v,cells[i]?=some v:=⟨_,zab (by omega)⟩
   obtain⟨l,hl⟩:∃l,ps[i]?=some l:=⟨_,zab (by omega)⟩
   rw[hv]at s2;obtain⟨v1,v2⟩:=x2 i v l hv hl;have s4:=gX (bx Hi M.same);obtain⟨y,hy,cy⟩:=M.good.seq hm (i:=9) (m:=1) (l:=oV N i) rfl;obtain⟨Ha',a,ga,a1,Ma,Ia⟩:=afB Hi.guard c h i l (by have:=hp2 l (zas hl);omega) v1.guard;obtain⟨Ha,a1,Ma⟩:=drawn a1 Ma;have Na:=M.trans Ma;let ga':=cup Hi.next gi ga
   have hK:=M.good.lt hm;have ajl:∀q,q<Hi.next->ga' q=gi q:=λq hq=>by simp only[ga',cup,hq,if_true]
   have aul:∀q cs,ga q=some cs->ga' q=some cs:=λq cs hq=>by
    have:=(Ma.lt hq).1;simp only[ga',cup];rw[if_neg (by omega),hq]
   have hma:ga' K=some (qE f N c i []):=by rw[ajl K hK,hm]
   let o:gB:=.blk 0 158 [.ref (a 0) 0 0];have hnl:(oV N i).length=i*1:=by simp[oV]
   obtain⟨y',He,Hf,t1,t2,t3,t4⟩:=(Na.good.new o).append (e:=158) (by_:=8) (by rw[jh,Na.base,n1];simp only[H1,jh];omega) hma (i:=9) (l:=oV N i) rfl (by decide) hnl ((cy.ext Ma.next Ma.same).new o) (jX (ex:=true) (n:=1) (m:=1) (l:=[.ref (a 0) 0 0]) rfl) rfl (by unfold most;omega) (by unfold most;omega);let N':Nat->Nat->Nat:=λj=>if j=i then a else N j
   have hN:∀j,j<i->N' j=N j:=λj hj=>by simp only[N'];rw[if_neg (by omega)]
   have hNi:N' i=a:=by simp only[N',if_true]
   have Mf:Made H1 Hf (upd ga' K (qE f N' c (i+1) [])):=by
    refine((Na.new o).step t3 t4).as ?_
    congr 1
    show qE f N' c (i+1) []=_;have:=I8 (N:=N) (N':=N') hN;simp only[oV]at this;simp only[qE];rw[this,hNi];rfl
   have dat:∀q cs,ga' q=some cs->¬aaR cs->upd ga' K (qE f N' c (i+1) []) q=some cs:=λq cs hq hd=>by
    rw[bD];exact hq;intro e;subst e;rw[hma]at hq;cases hq;exact hd YQ
   have hal:∀s,s<3->Hi.next<=a s/\ga' (a s)=ga (a s):=λs hs=>by
    obtain⟨l,hg⟩:=Ia.avd hs;have:=(Ma.lt hg).1;exact⟨this,by simp only[ga',cup];rw[if_neg (by omega)]⟩
   have hNl:∀j,j<i->∀s,s<3->N j s<Hi.next:=λj hji s hs=>by
    obtain⟨lj,hlj⟩:∃l,ps[j]?=some l:=⟨_,zab (by omega)⟩
    obtain⟨l,hg⟩:=(hnd j lj hji hlj).avd hs;exact M.good.lt hg
   obtain⟨H',g',N'',r1,r2⟩:=ih (i+1) (by omega) Hf _ N' Mf aT (λq hq=>by
    rw[bD (by omega),ajl q (by omega),hlow q hq]) (λj lj hj1 hlj=>by
    by_cases hji:j=i
    ·subst hji;rw[hl]at hlj;cases hlj;rw[hNi];exact Ia.ext (λq cs hq hd=>dat q cs (aul q cs hq) hd) λs hs=>by
      obtain⟨h1,h2⟩:=hal s hs;rw[bD (by omega),h2]
    ·rw[hN j (by omega)];refine(hnd j lj (by omega) hlj).ext (λq cs hq hd=>dat q cs (by rw[ajl q (M.good.lt hq),hq]) hd) λs hs=>?_;have hlt:=hNl j (by omega) s hs;have hne:N j s≠K:=λe=>by
      obtain⟨l',hg,_,hl'⟩:=(hnd j lj (by omega) hlj).lens hs;rw[e,hm]at hg;cases hg;simp[qE,Cfg.av]at hl'
     rw[bD hne,ajl _ hlt]) (λj k s t hj1 hk1 hs ht e=>by
    by_cases hji:j=i
    ·by_cases hki:k=i
     ·subst hji;subst hki;rw[hNi]at e;exact⟨rfl,Ia.inj hs ht e⟩
     ·subst hji;rw[hNi,hN k (by omega)]at e;have:=(hal s hs).1;have:=hNl k (by omega) t ht;omega
    ·by_cases hki:k=i
     ·subst hki;rw[hNi,hN j (by omega)]at e;have:=(hal t ht).1;have:=hNl j (by omega) s hs;omega
     ·rw[hN j (by omega),hN k (by omega)]at e;exact hj j k s t (by omega) (by omega) hs ht e)
   refine⟨H',g',N'',?_,r2⟩;rw[abd];have eb:=jP (e:=158) (m:=1) (z:=[zP]) (v:=.ref (a 0) 0 0) (H:=Ha) rfl rfl rfl;have ec:(AV.ref (a 0) 0 0).cells=[.ref (a 0) 0 0]:=rfl;rw[ec]at eb;simp only[o]at t1 t2;simp only[Nat.reduceLeDiff,xq_,hq_,l0,h1,s1,s2,s4,hy,a1,amL,zbk,eb,t1,t2,bI,h6,h7,r1]
 have hf:=M1.lt aT;obtain⟨H',g',N,r1,r2,r3,r4,r5,r6⟩:=key ps.length 0 (by omega) _ g0 (λ_ _=>0) M0 aT (λq hq=>rfl) (λj l hj=>by omega) (λi j s t hi=>by omega);refine⟨H',K,f,N,g',bn rfl rfl (ata _ _ _ _ (r:=(_,H')) ?_),r2.wz,?_⟩
 ·have b2:=gX (bx H2 M1.same);have em:bd 157 [(0,.agg c.av),(1,.ref f 0 0)]=some (.agg xs):=by
   simp only[xq_,am0,jg,fK,agZ,Cfg.av,eH];rfl
  simp only[H1]at b1 e1 e2 e4;simp only[Nat.reduceLT,xq_,hq_,anU,aC (eu c),b1,e1,e2,zae,e4,em,aC hall];exact r1
 ·have gf:g' f=some (Yz c (List.replicate (4*c.aG.toNat) [])):=by
   rw[r4 f hf.2];simp only[g0];rw[bD (by omega),aT]
  refine⟨by rw[r3];simp[NG.new],⟨_,gf,by simp[NG.new],λi l cells hl hc=>?_⟩,λi n hi=>?_,by simp only[NG.new,zaz];exact r6⟩
  ·have h1:l=[]:=by
    have hm:=zas hl;simp only[NG.new,za5]at hm;obtain⟨p,hp,hl2⟩:=hm;rw[zcK hp]at hl2
    simpa [ahy,Port.zero]using hl2
   rw[zbB]at hc;split at hc
   ·cases hc;rw[h1];exact .nil
   ·cases hc
  ·simp only[NG.new,zaw,zbO]at hi;obtain⟨l,hl,rfl⟩:=hi;exact r5 i l (zaf.1 hl).1 hl
def afC(a b:Bool):bi .neq 4 (B a) (B b)=some (B (!decide (a=b))):=by
 cases a <;> cases b <;> kernel_rfl
structure nH(H:ah)(x:AV)(l:List Int):Prop where
 is:aH H x 1 l.length (l.map I)
 one:One x
 nil:l=[]->x=zN
def pX(H:ah)(l:List Int):nH H (dat l) l:=⟨fH H l,sJ,λh=>by rw[h,dat,gI]⟩
def nH.guard {H:ah}{x:AV}{l:List Int}(h:nH H x l):nH H.guard x l:=⟨h.is.guard,h.one,h.nil⟩
def nH.new {H:ah}{x:AV}{l:List Int}(h:nH H x l)(o:gB):nH (H.new o) x l:=⟨h.is.new o,h.one,h.nil⟩
def FZ {p:Pkt}{x:AV}(h:One x):(p.avx x).all AV.aS=true:=by simp[Pkt.avx,iI,kR,h.2]
def afD {p:Ent}{x:AV}(h:One x):(p.avx x).all AV.aS=true:=by simp[Ent.avx,iI,kR,h.2]
section
variable {b:Nat}{H H':ah}{g:bF}{q:Nat}{cs:List Cell}
def OS.own {τ:Nat->Option Tag}{T:Tag}{x:AV}{m:Nat}{l:List AV}(h:OS b H τ T x m l):Own b H x m l:=by
 rcases h with h|⟨r,g,off,n,d,ex,e,all,i,_,j⟩
 ·exact .inl h
 ·exact .inr ⟨r,g,off,n,d,ex,e,all,i,j⟩
def F5 {α:Type}:∀{es:List (Int × α)} {n:Int} {v:α},jY es n=some v->∃j:Nat,es[j]?=some (n,v)/\∀k,k<j->∀e,es[k]?=some e->e.1≠n
 |[],_,_,h=>by cases h
 |(k,w)::es,n,v,h=>by
  simp only[jY]at h;split at h
  ·rename_i e;subst e;cases h;exact⟨0,rfl,λk hk=>V⟩
  ·rename_i e;obtain⟨j,d,g⟩:=F5 h;refine⟨j+1,d,λk hk x b=>?_⟩;cases k with
   |zero=>cases b;exact e
   |succ k=>exact g k V x (by simpa using b)
def I9 {α:Type}:∀{es:List (Int × α)} {n:Int},jY es n=none↔n∉es.map (·.1)
 |[],_=>by simp[jY]
 |(k,w)::es,n=>by
  simp only[jY];by_cases e:k=n
  ·simp[e]
  ·simp only[e,if_false,zaD,zao,not_or];rw[I9];exact⟨λh=>⟨λb=>e b.symm,h⟩,λh=>h.2⟩
def uw:∀(es:List (Int × AV)) (n:Int),ql es n=jY es n
 |[],_=>rfl
 |(k,w)::es,n=>by
  simp only[ql,jY];split
  ·rfl
  ·exact uw es n
def Ro {α β:Type}:∀{es:List (Int × α)} {b:List (Int × β)} {n:Int},b.map (·.1)=es.map (·.1)->(jY es n=none↔jY b n=none):=by
 intro es b n h;rw[I9,I9,h]
def Ja {α β:Type}:∀{es:List (Int × α)} {b:List (Int × β)} {n:Int} {v:α},b.map (·.1)=es.map (·.1)->jY es n=some v->∃(j:Nat) (w:β),jY b n=some w/\es[j]?=some (n,v)/\b[j]?=some (n,w)
 |[],_,_,_,_,h=>by cases h
 |(k,g)::es,[],_,_,h,_=>by simp at h
 |(k,g)::es,(k',w0)::b,n,v,h,d=>by
  simp only[zaD,zbQ]at h;obtain⟨rfl,h⟩:=h;simp only[jY]at d ⊢;split at d
  ·rename_i e;subst e;cases d;exact⟨0,w0,O,rfl,rfl⟩
  ·rename_i e;obtain⟨j,w,i,m,o⟩:=Ja h d;exact⟨j+1,w,by simp only[e,if_false];exact i,m,o⟩
def Good.maps(G:Good b H g)(h:g q=some cs){i m:Nat}{k:IntKind}{es:List (Int × List AV)}(hi:cs[i]?=some (.maps k m es)):
  ∃r,ld (.ref q 0 i) H=some (.mp r,H)/\lnM (.mp r) H=some (I es.length,H)/\∀z n,∃x,(jY es n=none->x=.s z)/\(∀l,jY es n=some l->Own b H x m l)/\∀ok,lk k z (.mp r) (.s (.int k n)) ok H=some ((if ok then .tup [x,B (jY es n).isSome]else x),H):=by
 obtain⟨h0,τ,hR⟩:=G;have R:=hR q cs h;obtain⟨ty,xs,h1,h2,h3,h4⟩:=R.blk;have hlt:i<xs.length:=by rw[h2];exact(zaf.1 hi).1
 have hx:xs[i]?=some (xs[i]'hlt):=zab hlt;have:=h4 i _ _ hi hx;simp only[CR]at this;obtain⟨aes,⟨r,e,t1,t2,t3,t4⟩,a2,a3⟩:=this;rw[e]at hx;refine⟨r,by rw[dU h1,hx];rfl,?_,λz n=>?_⟩
 ·simp only[lnM,kV,bQ,zaj,amF,t4];have:=congrArg List.length a2;simp only[zaz]at this;rw[this]
 ·cases hn:jY es n with
  |none=>
   have hf:ql aes n=none:=by rw[uw];exact(Ro a2).1 hn
   refine⟨.s z,λ_=>rfl,λl hl=>(by cases hl),λok=>?_⟩;simp only[lk,kV,bQ,zaj,lkO,t4,and_self,if_true,hf];cases ok <;> rfl
  |some l=>
   obtain⟨j,w,b1,b2,b3⟩:=Ja a2 hn;refine⟨w,λh=>(by cases h),λl' hl=>(by cases hl;exact(a3 j n l w b2 b3).own),λok=>?_⟩;simp only[lk,kV,bQ,zaj,lkO,t4,and_self,if_true,uw,b1];cases ok <;> rfl
end
def Jb(H:ah){l:List Int}(hl:l.length<1000000000){x:AV}(hx:nH H x l):cl 36 [x] H=some (dat l,H):=by
 by_cases h:l=[]
 ·rw[hx.nil h];subst h;have t:=ku H [] (by simp);have z:dat ([]:List Int)=zN:=by simp[dat,gI]
  rw[z]at t ⊢;exact t
 ·have h0:l.length≠0:=λe=>h (zaq e);have e2:=ug (e:=3) (by_:=8) (r:=H.guard.next) (H:=H.guard.new (.blk 0 3 [])) qA (hx.is.guard.new _) (yt l) h0 (by unfold most;omega) (by unfold most;omega);simp only[xY,eF]at e2;refine iy rfl rfl (ae5 _ _ _ (r:=(.sl (H.next+1) 0 0 1 l.length l.length false,(H.guard.new (.blk 0 3 [])).new (.blk 0 (3+gV) (l.map I)))) ?_) ?_
  ·have e1:bi .eql 22 x zN=some (B false):=aH.aci Tryz.underlying22 hx.is h0;simp only[xq_,abe,e1,Nz,zD,e2,zbq,zaX]
  ·rw[qH h];refine kS (by omega) (cells:=l.map I) ?_ (iJ _ λx hx=>rU l x hx _ _);simp only[cZ,jw,eF,xY,if_true];rw[if_pos (by simp),zaS,zay (by simp)]
def OE(e:Ent){d:Nat}:∀x∈e.av,Frz (d+2) x:=λx b=>by
 simp only[Ent.av,zao,zaB,or_false]at b;rcases b with rfl|rfl|rfl|rfl|rfl|rfl <;> first|exact fC|exact sK
def U3(e:Row){d:Nat}:∀x∈e.av,Frz (d+2) x:=λx b=>by
 simp only[Row.av,zao,zaB,or_false]at b;rcases b with rfl|rfl|rfl <;> first|exact fC|exact sK
def rV:Ent.zero.av=[zI,zI,zI,zI,zB,zN]:=by simp[Ent.zero,Ent.av,dat,gI]
def Xx:Row.zero.av=[zI,zI,zN]:=by simp[Row.zero,Row.av,dat,gI]
def Xy(H:ah)(e:Ent){x:AV}(g:e.data.length<1000000000)(b:nH H x e.data):cl 83 [.agg (e.avx x)] H=some (.agg e.av,H):=by
 refine bg rfl rfl (atV _ _ _) ?_ (mF (OE e));have h:=λo d=>Jb ((H.guard.new o).new d) g ((b.guard.new o).new d);simp only[Nat.reduceLT,Nat.reduceAdd,aN,xq_,hq_,aop,aC,b.one.2,Ent.avx,h,Ent.av]
section
variable {b:Nat}{H:ah}{g:bF}{q:Nat}
def avV(H:ah)(e:Ent){r:Nat}{ak:Int}(h:∀H':ah,H'.get=H.get->ld (.ref r 0 0) H'=some (I ak,H'))(hr:r<H.next):cl 126 [.agg e.av,.ref r 0 0] H=some (B (decide (e.ak=ak)),H):=by
 refine bg rfl rfl (aoP _ _ _ _) ?_ fC;have e1:=h H.guard rfl;simp only[Nat.reduceLT,xq_,hq_,ah2,aC,Ent.av,e1,hr]
def Jc(G:Good b H g){c:Cache}(h:g q=some (dD c))(hl:c.l.length<1000000)(ak:Int):cl 82 [.ref q 0 0,I ak] H=some (I (yN (c.at_ ak)),H):=by
 refine bg rfl rfl (atU _ _ _ _) ?_ fC;have G1:=G.guard.new (.blk 0 3 [I ak]);obtain⟨x,hx,c1⟩:=G1.seq h (i:=0) rfl;have hs:=c1.is (by decide) (dF dI c.l);have e2:=Ej (H.guard.new (.blk 0 3 [I ak])) (enc:=Ent.av) dI (f:=.fn (.func 126) [] [.ref H.next 0 0]) hs (by omega) (λe=>decide (e.ak=ak)) (λe _=>by
  rw[uj (by kernel_rfl)];exact avV _ e (λH' hg=>by rw[dU (g:=0) (ty:=3) (xs:=[I ak]) (by rw[hg];exact aP rfl)];rfl) (by rw[eF,xY];omega))
 have eb:fM 3 (I ak) H.guard=some (.ref H.next 0 0,H.guard.new (.blk 0 3 [I ak])):=rfl;simp only[xq_,aoo,eb,hx,e2];rfl
def rW {α:Type}{p:α->Bool}:∀l:List α,(l.findIdx? p).bind (λi=>l[i]?)=l.find? p
 |[]=>rfl
 |a::l=>by
  rw[zcu,List.find?_cons];cases h:p a with
  |true=>simp
  |false=>
   simp only[zal,if_false];rw[<-rW l];cases l.findIdx? p <;> simp
def jG(o:Option Ent):AV:=.tup [.agg (o.getD .zero).av,B o.isSome]
def Lu(o:Option Ent):Frz 9 (jG o):=wW λx b=>by
 simp only[zao,zaB,or_false]at b;rcases b with rfl|rfl
 ·exact mF (OE _)
 ·exact fC
def nI(G:Good b H g){c:Cache}(h:g q=some (dD c))(y:c.l.length<1000000)(hd:∀e∈c.l,e.data.length<1000000000)(ak:Int):cl 41 [.ref q 0 0,I ak] H=some (jG (c.find ak),H):=by
 refine bg rfl rfl (atf _ _ _ _) ?_ (Lu _);have p:=G.guard.new (.blk 0 100 [zI,zI,zI,zI,zB,zN]);have d:=Jc p h y ak;have j:c.find ak=(c.at_ ak).bind λi=>c.l[i]?:=(rW c.l).symm;cases ha:c.at_ ak with
 |none=>
  rw[ha]at d j;have m:yN (none:Option Nat)=-1:=rfl;rw[m]at d;simp only[Int.reduceLT,Int.reduceNeg,Nat.reduceAdd,aN,xq_,hq_,aky,d,aaB,jg,dY,j,jG,rV,zaZ,zaK,Option.bind_none]
 |some i=>
  rw[ha]at d j;have hi:i<c.l.length:=zbE.1 ha |>.1
  obtain⟨e,n⟩:∃e,c.l[i]?=some e:=⟨_,zab hi⟩
  have m:yN (some i)=(i:Int):=rfl;rw[m]at d;have z:¬(i:Int)<0:=V
  obtain⟨x,A,C⟩:=p.seq h (i:=0) rfl;have u:=C.is J (dF dI c.l);have v:=u.ix (k:=.i64) (i:=(i:Int)) V V;rw[zam]at v;have D:=lX dI u n;have w:=λH=>Xy H e (hd e (zas n)) (pX H e.data);have E:e.avx (dat e.data)=e.av:=rfl;rw[E]at w;have o:c.find ak=some e:=by rw[j];exact n
  simp only[Nat.reduceAdd,aN,xq_,hq_,aky,d,z,A,v,D,w,o,jG,zat,zaO]
def ajq(G:Good b H g){c:Cfg}{dR:Rows}(h:g q=some (EF c dR))(hd:∀e∈dR,e.2.data.length<1000000000)(ak:Int):cl 124 [.ref q 0 0,I ak] H=some (.tup [.agg (iK dR ak).av,B (jY dR ak).isSome],H):=by
 refine bg rfl rfl (aoN _ _ _ _) ?_ (wW λx o=>?_)
 ·have u:=G.guard.new (.blk 0 95 [zI,zI,zN]);obtain⟨r,p,v,_⟩:=u.map h (i:=8) rfl;have d:=v (.agg #[.int .i64 0,.int .i64 0,.slice none 0 0]) ak true;rw[vG]at d;cases k:jY dR ak with
  |none=>
   have m:=λH=>ku H [] O;have y:dat ([]:List Int)=zN:=by simp[dat,gI]
   rw[y]at m;have z:AV.cells (.s (.agg #[.int .i64 0,.int .i64 0,.slice none 0 0]))=[zI,zI,zN]:=rfl;simp only[k,zdc,if_true]at d;have A:zN.aS=true:=rfl;have n:zN.cells=[zN]:=rfl;simp only[Nat.reduceAdd,aN,xq_,hq_,abt,p,d,z,m,iK,k,Xx,zaZ,zaK,A,n]
  |some w=>
   simp only[k,zaj,if_true]at d;have hm:w.data.length<1000000000:=by
    obtain⟨j,C,_⟩:=F5 k;exact hd _ (zas C)
   have m:=λH=>ku H w.data hm;simp only[Nat.reduceAdd,aN,xq_,hq_,abt,p,d,Row.av,m,iK,k,zat,zaO]
 ·simp only[zao,zaB,or_false]at o;rcases o with rfl|rfl
  ·exact mF (U3 _)
  ·exact fC
def LC(G:Good b H g){t:Turns}(h:g q=some (iT t))(ak:Int):cl 85 [.ref q 0 0,I ak] H=some (I (t.owner ak),H):=by
 refine bg rfl rfl (atX _ _ _ _) ?_ fC;obtain⟨r,j,k,_⟩:=G.guard.map h (i:=0) rfl;have d:=k (.int .i64 0) ak true;rw[vG]at d;cases e:jY t.iF ak with
 |none=>
  simp only[e,zdc,if_true]at d;simp only[Int.reduceNeg,xq_,akG,j,d,Turns.owner,e,zaZ]
 |some w=>
  simp only[e,zaj,if_true]at d;simp only[Int.reduceNeg,xq_,akG,j,d,Turns.owner,e,zat]
def yw(G:Good b H g){t:Turns}(h:g q=some (iT t))(ak:Int):cl 225 [.ref q 0 0,I ak] H=some (B (t.owned ak),H):=by
 refine bg rfl rfl (aqk _ _ _ _) ?_ fC;obtain⟨r,j,k,_⟩:=G.guard.map h (i:=0) rfl;have d:=k (.int .i64 0) ak true;rw[vG]at d;cases e:jY t.iF ak with
 |none=>
  simp only[e,zdc,if_true]at d;simp only[xq_,abT,j,d,Turns.owned,e,zaK]
 |some w=>
  simp only[e,zaj,if_true]at d;simp only[xq_,abT,j,d,Turns.owned,e,zaO]
def JJ(w:Int × Int):List AV:=[I w.1,I w.2]
def OG {α β:Type}(f:α->β):∀(es:List (Int × α)) (n:Int),jY (es.map λe=>(e.1,f e.2)) n=(jY es n).map f
 |[],_=>rfl
 |(k,v)::es,n=>by
  simp only[zaD,jY];split
  ·rfl
  ·exact OG f es n
def aqN(G:Good b H g){t:Turns}(h:g q=some (iT t))(ak:Int):∃r x,ld (.ref q 0 1) H=some (.mp r,H)/\lk .i64 (.slice none 0 0) (.mp r) (I ak) false H=some (x,H)/\Own b H x 2 ((t.ws ak).flatMap JJ):=by
 obtain⟨r,k,_,m⟩:=G.maps h (i:=1) rfl;obtain⟨x,d,e,n⟩:=m (.slice none 0 0) ak;refine⟨r,x,k,n false,?_⟩;rw[OG (λl:List (Int × Int)=>l.flatMap λw=>[I w.1,I w.2])]at d e;simp only[show(λw:Int × Int=>[I w.1,I w.2])=JJ from rfl]at d e;cases j:jY t.wait ak with
 |none=>
  rw[j]at d;exact .inl ⟨d rfl,by simp[Turns.ws,j]⟩
 |some w=>
  rw[j]at e;have:=e _ rfl
  simpa [Turns.ws,j]using this
def xG(G:Good b H g){t:Turns}(h:g q=some (iT t))(ak:Int):cl 226 [.ref q 0 0,I ak] H=some (I (t.ws ak).length,H):=by
 refine bg rfl rfl (aql _ _ _ _) ?_ fC;obtain⟨r,x,d,i,j⟩:=aqN G.guard h ak;have e:=(j.is (n:=(t.ws ak).length) J (dF (enc:=JJ) (λ_=>rfl) _)).lnS;simp only[xq_,aja,d,i,e]
def afE {e m by_ r ty:Nat}{y:AV}{H:ah}(b:H.get r=.blk 0 ty [])(d:aH H y m 0 []):app e m by_ (.sl r 0 0 m 0 0 true) y H=some (.sl r 0 0 m 0 0 true,H):=by
 obtain⟨g,h⟩:=d.wS;simp only[app,g,h,dW];rw[if_pos ⟨O,rfl⟩];simp only[b];rw[if_pos ⟨trivial,trivial,O⟩,if_pos trivial]
def U4(H:ah){l:List Evn}(hl:l.length<1000000000){x:AV}(hx:aH H x 4 l.length (l.flatMap Evn.av))(hf:∀a:Evn,∀z∈Evn.av a,Frz 8 z)(ha:∀a:Evn,(Evn.av a).all AV.aS=true)(hm:∀a:Evn,(Evn.av a).length=4):∃y,cl 102 [x] H=some (y,H)/\∀H':ah,aH H' y 4 l.length (l.flatMap Evn.av):=by
 by_cases hz:x=zN
 ·subst hz;have h0:l=[]:=by
   have h1:=hx.2.2.2;exact zaq h1
  subst h0;refine⟨zN,iy rfl rfl (abn _ _ _ (r:=(zN,H.guard)) ?_) iY,λ_=>aH.nil⟩;have e:bi .eql 123 zN zN=some (B true):=by kernel_rfl
  simp only[xq_,WG,e]
 ·have e1:bi .eql 123 x zN=some (B false):=by
   obtain⟨_,hx⟩:=hx;cases x with
   |sl r g o m n c ex=>exact CO Tryz.underlying123
   |vs n m l=>exact uh Tryz.underlying123
   |s v=>
    cases v with
    |slice a b c=>
     cases a with
     |none=>obtain⟨rfl,rfl,_⟩:=hx;exact absurd rfl hz
     |some a=>exact hx.elim
    |_=>exact hx.elim
   |_=>exact hx.elim
  let H1:=H.guard.new (.blk 0 184 []);have x1:aH H1 x 4 l.length (l.flatMap Evn.av):=hx.guard.new _;by_cases h:l=[]
  ·subst h;have e2:=afE (e:=184) (by_:=32) (r:=H.next) (H:=H1) (aP rfl) x1;refine⟨.vs 0 4 [],iy rfl rfl (abn _ _ _ (r:=(.sl H.next 0 0 4 0 0 true,H1)) ?_) ?_,λ_=>aH.vs rfl⟩
   ·simp only[H1]at e2;simp only[xq_,WG,e1,Wp,zD,e2,zbq,zaX];rfl
   ·refine kS (zac _) (cells:=[]) ?_ rfl;have:H1.get H.next=.blk 0 184 []:=aP rfl
    simp only[cZ,this];rfl
  ·have h0:l.length≠0:=λe=>h (zaq e);have e2:=ug (e:=184) (by_:=32) (r:=H.next) (H:=H1) (aP rfl) x1 (EU ha l) h0 (by unfold most;omega) (by unfold most;omega);refine⟨.vs l.length 4 (l.flatMap Evn.av),iy rfl rfl (abn _ _ _ (r:=(.sl (H.next+1) 0 0 4 l.length l.length false,H1.new (.blk 0 (184+gV) (l.flatMap Evn.av)))) ?_) ?_,λ_=>aH.vs (dF hm l)⟩
   ·have n1:H1.next=H.next+1:=rfl
    rw[n1]at e2;simp only[H1]at e2;simp only[xq_,WG,e1,Wp,zD,e2,zbq,zaX];rfl
   ·refine kS (by omega) (cells:=l.flatMap Evn.av) ?_ (iJ _ λz hz=>Xp hf l z hz _ _);have:(H1.new (.blk 0 (184+gV) (l.flatMap Evn.av))).get (H.next+1)=.blk 0 (184+gV) (l.flatMap Evn.av):=aP rfl;simp only[cZ,this];rw[if_pos ⟨trivial,by rw[dF hm];omega⟩,zaS,zay (by rw[dF hm];exact zac _)]
def acD {x:AV}{m n:Nat}{cells:List AV}(h:∀H':ah,aH H' x m n cells)(d:∀z∈cells,Frz 8 z):Frz 9 x:=by
 have e:=h ah.empty;obtain⟨i,b⟩:=e;cases x with
 |sl r g o m n c ex=>exact absurd b.2.2.1.1 (by simp[ah.empty])
 |vs n m l=>obtain⟨_,_,rfl⟩:=b;exact ahn d
 |s v=>exact fC
 |_=>exact b.elim
def Jd(G:Good b H g){l:List Evn}(h:g q=some (mP l))(m:l.length<1000000):∃x,cl 55 [.ref q 0 0] H=some (x,H)/\∀H':ah,aH H' x 4 l.length (l.flatMap Evn.av):=by
 obtain⟨x,j,c⟩:=G.guard.seq h (i:=0) rfl;obtain⟨y,e,d⟩:=U4 H.guard (l:=l) V (c.is J (dF tZ l)) ace CJ tZ;refine⟨y,bg rfl rfl (atr _ _ _) ?_ (acD d λz k=>?_),d⟩
 ·simp only[xq_,an5,j,e]
 ·obtain⟨a,_,ha⟩:=za5.1 k;exact ace a z ha
def ala(G:Good b H g){a:Nat->Nat}{c:Cfg}{me:Int}{n:Node}(N:qI g a c me n)(hd:∀e∈n.home.dR,e.2.data.length<1000000000)(ak:Int):cl 80 [.ref (a 0) 0 0,I ak] H=some (.tup [.agg (iK n.home.dR ak).av,B (jY n.home.dR ak).isSome],H):=by
 obtain⟨j,q,u,k,m,v⟩:=N;refine bg rfl rfl (atS _ _ _ _) ?_ (wW λx h=>?_)
 ·have d:=G.guard.new (.blk 0 95 [zI,zI,zN]);have o:=d.load j (i:=11) (x:=.ref (a 3) 0 0) rfl;have p:=d.load k (i:=0) (x:=.ref (a 4) 0 0) rfl;have e:=ajq d m hd ak;simp only[Nat.reduceAdd,aN,xq_,hq_,aol,o,p,e]
 ·simp only[zao,zaB,or_false]at h;rcases h with rfl|rfl
  ·exact mF (U3 _)
  ·exact fC
def acE(G:Good b H g){a:Nat->Nat}{c:Cfg}{me:Int}{n:Node}(N:qI g a c me n)(ak:Int):cl 43 [.ref (a 0) 0 0,I ak] H=some (I (n.home.bf.owner ak),H):=by
 obtain⟨d,o,p,h,q,j⟩:=N;refine bg rfl rfl (ath _ _ _ _) ?_ fC;have k:=G.guard.load d (i:=11) (x:=.ref (a 3) 0 0) rfl;have m:=G.guard.load h (i:=1) (x:=.ref (a 5) 0 0) rfl;have e:=LC G.guard j ak;simp only[xq_,anX,k,m,e]
def F6(G:Good b H g){A:Adr}{m:cO}(M:gJ g A m)(o:m.aG.length<1000)(i:Int):cl 25 [.ref A.iL 0 0,I i] H=some (if 0<=i/\i<m.aG.length then .ref (A.N i.toNat 0) 0 0 else zP,H):=by
 obtain⟨x,p,c⟩:=G.guard.seq M.iL (i:=10) rfl;have e:=c.is (n:=m.aG.length) J (acs _ _);have q:=e.lnS;have d:bV H.guard H.next 9 (if 0<=i/\i<m.aG.length then .ref (A.N i.toNat 0) 0 0 else zP)=some (if 0<=i/\i<m.aG.length then .ref (A.N i.toNat 0) 0 0 else zP):=by
  split
  ·rename_i h;obtain⟨n,o⟩:∃n,m.aG[i.toNat]?=some n:=⟨_,zab V⟩
   have:=G.lt (M.bH _ n o).1;rw[bV];simp only[this,if_true]
  ·exact iY
 refine iy rfl rfl (as5 _ _ _ _ (r:=(_,H.guard)) ?_) d;by_cases j:i<0
 ·have:¬(0<=i/\i<m.aG.length):=V
  rw[if_neg this];simp only[xq_,ae4,j]
 ·by_cases u:(m.aG.length:Int)<=i
  ·have:¬(0<=i/\i<m.aG.length):=V
   rw[if_neg this];simp only[xq_,ae4,j,p,q,u]
  ·have:0<=i/\i<m.aG.length:=V
   rw[if_pos this];have w:=e.ix (k:=.i64) (i:=i) V V;have v:=e.ld (i:=i.toNat) V;rw[acu V]at v;simp only[xq_,ae4,j,p,q,u,w,v]
end
def xH:List (List Pkt)->Nat->Int->Option (Nat × Int)
 |[],_,_=>none
 |l::ls,j,at_=>if 0<=at_/\at_<l.length then some (j,at_)else xH ls (j+1) (at_-l.length)
def uy:∀{ls:List (List Pkt)} {j:Nat} {at_:Int} {b:Nat} {k:Int},xH ls j at_=some (b,k)->j<=b/\∃l,ls[b-j]?=some l/\0<=k/\k<l.length/\0<=at_/\ls.flatten[at_.toNat]?=l[k.toNat]?
 |[],_,_,_,_,h=>by cases h
 |l::ls,j,at_,b,k,h=>by
  simp only[xH]at h;split at h
  ·rename_i hc;cases h;refine⟨zac _,l,O,hc.1,hc.2,hc.1,?_⟩;rw[zdN,zaG V]
  ·rename_i hc;obtain⟨n,d,e,g,i,o,m⟩:=uy h;refine⟨V,d,by rw[show b-j=(b-(j+1))+1 by omega];simpa using e,g,i,V,?_⟩;rw[zdN,za2 V,<-m]
   congr 1;omega
def Di:∀{ls:List (List Pkt)} {j:Nat} {at_:Int},xH ls j at_=none->at_<0∨(ls.flatten.length:Int)<=at_
 |[],_,_,_=>by simp;omega
 |l::ls,j,at_,h=>by
  simp only[xH]at h;split at h
  ·cases h
  ·rename_i hc;have:=Di h;rw[zdN,zar];omega
def Dj:∀l:List Port,(l.flatMap λp=>[p.rq,p.an]).flatten=l.flatMap λp=>p.rq++p.an
 |[]=>rfl
 |p::l=>by simp[Dj l]
def kU(P:Nat->Nat->Nat)(j:Nat):List AV:=[.ref (P (j / 2) (if j % 2=0 then 0 else 2)) 0 0,.ref (P (j / 2) (if j % 2=0 then 1 else 3)) 0 0]
def Rq {P:Nat->Nat->Nat}{n j:Nat}(h:j<2*n):((iU P n).drop (j*2)).take 2=kU P j:=by
 have hi:j / 2<n:=V
 have b:=vF (m:=4) (enc:=λi=>oD (P i)) (λ_=>rfl) (List.range n) (j / 2) (j / 2) (zbi hi);rcases Nat.mod_two_eq_zero_or_one j with d|d
 ·have e:((iU P n).drop (j*2)).take 2=(((iU P n).drop (j / 2*4)).take 4).take 2:=by
   rw[zb4,show j / 2*4=j*2 by omega];rfl
  rw[e];refine(congrArg (List.take 2) b).trans ?_;simp[kU,d,oD]
 ·have e:((iU P n).drop (j*2)).take 2=((((iU P n).drop (j / 2*4)).take 4).drop 2).take 2:=by
   rw[zcI,zbN,zb4,show j / 2*4+2=j*2 by omega];rfl
  rw[e];refine(congrArg (λl=>(List.drop 2 l).take 2) b).trans ?_;simp[kU,d,oD]
def acF {g:bF}{f:Nat}{P:Nat->Nat->Nat}{c:Cfg}{fab:Fab}(F:iD g f P c fab){j:Nat}{l:List Pkt}(h:fab.jA[j]?=some l):
  g (P (j / 2) (if j % 2=0 then 0 else 2))=some (nO l c.out):=by
 have d:j<2*fab.l.length:=by
  have:=(zaf.1 h).1
  rwa [Fab.jA,qJ]at this
 obtain⟨k,a,a',e,b,i⟩:=F.ajm d;rw[h]at e;cases e;rw[Rq d]at b;simp only[kU,zbQ,AV.ref.injEq,and_true]at b;rw[b.1];exact i
section
variable {b:Nat}{H:ah}{g:bF}{f:Nat}{P:Nat->Nat->Nat}{c:Cfg}{fab:Fab}
def xI(P:Nat->Nat->Nat):Option (Nat × Int)->AV
 |some (j,k)=>.tup [.agg (kU P j),I k,B true]
 |none=>.tup [.agg [zP,zP],I 0,B false]
def acG(G:Good b H g)(F:iD g f P c fab)(hn:fab.l.length<1000)(h0:fab.l.length≠0)(hr:∀l∈fab.jA,l.length<1000)(at_:Int)(h64:qC at_):
  cl 69 [.ref f 0 0,I at_] H=some (xI P (xH fab.jA 0 at_),H):=by
 have hpl:fab.jA.length=2*fab.l.length:=qJ _;have hpx:(iU P fab.l.length).length=(2*fab.l.length)*2:=by rw[iU,pW];omega
 let H0:=H.guard.new (.blk 0 121 [zP,zP]);have ep:=Xv (G.guard.new (.blk 0 121 [zP,zP])) F hn h0;have xs:∀H':ah,aH H' (.vs (2*fab.l.length) 2 (iU P fab.l.length)) 2 (2*fab.l.length) (iU P fab.l.length):=λH'=>aH.vs hpx;let fnd:=xH fab.jA 0 at_;have key:∀k j,j+k=2*fab.l.length->∀(Hi:ah) (a:Int),H0.next<=Hi.next->Hi.base=H.next->(∀r,r<H0.next->Hi.get r=H0.get r)->qC a->
   ((0<=a/\fnd=xH (fab.jA.drop j) j a)∨((a<0∨9223372036854775808-1000-1000*(j:Int)<=a)/\fnd=none))->
   (Oe cl [I a,.ref H.next 0 0,.vs (2*fab.l.length) 2 (iU P fab.l.length),I (2*fab.l.length:Nat),I j] Hi).map Prod.fst=some (xI P fnd):=by
  intro k
  induction k with
  |zero=>
   intro j hj Hi a n1 b1 s1 ha hc;have h1:¬(j:Int)<(2*fab.l.length:Nat):=by omega
   have hf:fnd=none:=by
    rcases hc with⟨_,hc⟩|⟨_,hc⟩
    ·rw[hc,zaP (by omega)];rfl
    ·exact hc
   have g0:Hi.get H.next=.blk 0 121 [zP,zP]:=by rw[s1 _ (by show H.next<H.next+1;omega)];exact aP rfl
   have hb1:Hi.base<=H.next:=by omega
   have e0:bd 121 []=some (.agg [zP,zP]):=by simp only[xq_,agV,jg,fK]
   have e1:=ahw (H:=Hi) (r:=H.next) (off:=0) (n:=2) (v:=.agg [zP,zP]) g0 hb1 rfl rfl (by decide);rw[hf,abk];have e2:=iP (H:=Hi.put H.next (.blk 0 121 (aN [zP,zP] 0 [zP,zP]))) (r:=H.next) (off:=0) (n:=2) (g:=0) (ty:=121) (xs:=[zP,zP]) Ii (by decide);have hs:aN [zP,zP] 0 [zP,zP]=[zP,zP]:=rfl;simp only[eH,hs]at e1 e2;simp only[Nat.reduceAdd,aN,xq_,hq_,h1,e0,e1,e2,xI]
  |succ k ih=>
   intro j hj Hi a n1 b1 s1 ha hc;have h1:(j:Int)<(2*fab.l.length:Nat):=by omega
   have h6:(j:Int)+1=((j+1:Nat):Int):=by omega
   have h7:=wrap_i64 (a:=((j+1:Nat):Int)) (by omega) (by omega);have a1:=(xs Hi).ix (k:=.i64) (i:=(j:Int)) (by omega) h1;rw[zam]at a1;have a3:=(xs Hi).lda (i:=j) (by omega);rw[Rq (by omega)]at a3;obtain⟨l,hl⟩:∃l,fab.jA[j]?=some l:=⟨_,zab (by omega)⟩
   have p3:=acF F hl;have hlen:=hr l (zas hl);let H1:=Hi.new (.blk 0 121 (kU P j));have G1:Good b H1 g:=(((G.guard.new _).ext n1 s1).new _)
   have e3:=aco G1 p3;have sb:Hi.base<=Hi.next:=by have:H.next+1<=Hi.next:=n1;omega
   have lt0:H.next<Hi.next:=n1
   have hd:fab.jA.drop j=l::fab.jA.drop (j+1):=by
    rw[zaT (by omega)];rw[zab (by omega)]at hl;rw[zaW hl]
   rw[abk];simp only[H1,kU]at e3;by_cases hin:0<=a/\a<l.length
   ·have hf:fnd=some (j,a):=by
     rcases hc with⟨_,hc⟩|⟨hc,_⟩
     ·rw[hc,hd,xH,if_pos hin]
     ·omega
    have g0:Hi.get H.next=.blk 0 121 [zP,zP]:=by rw[s1 _ (by show H.next<H.next+1;omega)];exact aP rfl
    have hb1:Hi.base<=H.next:=by omega
    have e1:=ahw (H:=Hi.new (.blk 0 121 (kU P j))) (r:=H.next) (off:=0) (n:=2) (v:=.agg (kU P j)) (by rw[bC lt0];exact g0) (by rw[jh];exact hb1) rfl rfl (by decide);have e2:=iP (H:=(Hi.new (.blk 0 121 (kU P j))).put H.next (.blk 0 121 (aN [zP,zP] 0 (kU P j)))) (r:=H.next) (off:=0) (n:=2) (g:=0) (ty:=121) (xs:=aN [zP,zP] 0 (kU P j)) Ii (by simp[kU,aN]);simp only[eH,kU]at e1 e2;have hs:∀x y:AV,aN [zP,zP] 0 [x,y]=[x,y]:=λ_ _=>rfl;have h0:=hin.1;have h2:=hin.2;rw[hf];simp only[hs]at e1 e2;simp only[Nat.reduceAdd,aN,xq_,hq_,h1,a1,a3,kU,sb,h0,h2,e3,e1,e2,xI]
   ·have hw:∃a',IntKind.wrap .i64 (a-l.length)=a'/\qC a'/\((0<=a'/\fnd=xH (fab.jA.drop (j+1)) (j+1) a')∨((a'<0∨9223372036854775808-1000-1000*((j+1:Nat):Int)<=a')/\fnd=none)):=by
     rcases hc with⟨hc0,hc⟩|⟨hc,hn⟩
     ·refine⟨a-l.length,wrap_i64 (by omega) (by have:=ha.2;omega),⟨by omega,by have:=ha.2;omega⟩,.inl ⟨by omega,?_⟩⟩;rw[hc,hd,xH,if_neg hin]
     ·by_cases hlow:-9223372036854775808<=a-l.length
      ·refine⟨a-l.length,wrap_i64 hlow (by have:=ha.2;omega),⟨hlow,by have:=ha.2;omega⟩,.inr ⟨?_,hn⟩⟩;rcases hc with hc|hc
       ·left;omega
       ·right;omega
      ·refine⟨a-l.length+18446744073709551616,?_,⟨by have:=ha.1;omega,by omega⟩,.inr ⟨.inr (by have:=ha.1;omega),hn⟩⟩;have:a-l.length+18446744073709551616=IntKind.wrap .i64 (a-l.length):=by
        simp[IntKind.wrap,IntKind.signed,IntKind.bits];have:=ha.1;omega
       exact this.symm
    obtain⟨a',w1,w2,w3⟩:=hw;have r1:=ih (j+1) (by omega) (Hi.new (.blk 0 121 (kU P j))) a' (zbz n1) b1 (λr hr=>by rw[bC (by omega)];exact s1 r hr) w2 w3;simp only[kU]at r1;by_cases h0:0<=a
    ·have h2:¬a<l.length:=by omega
     simp only[Nat.reduceAdd,aN,xq_,hq_,h1,a1,a3,kU,sb,h0,h2,e3,lH,w1,bI,h6,h7,r1]
    ·simp only[Nat.reduceAdd,aN,xq_,hq_,h1,a1,a3,kU,sb,h0,e3,lH,w1,bI,h6,h7,r1]
 have r1:=key (2*fab.l.length) 0 (by omega) H0 at_ (zac _) rfl (λ_ _=>rfl) h64 (by
  by_cases h:0<=at_
  ·exact .inl ⟨h,rfl⟩
  ·refine .inr ⟨.inl (by omega),?_⟩;cases hf:xH fab.jA 0 at_ with
   |none=>exact hf
   |some r=>
    obtain⟨j,k⟩:=r;obtain⟨_,l,_,_,_,h5,_⟩:=uy hf;omega)
 have hz:∀Hz,bV Hz H.next 9 (xI P fnd)=some (xI P fnd):=by
  intro Hz;cases hf:fnd with
  |none=>exact wW (λx hx=>by
    simp only[zao,zaB,or_false]at hx;rcases hx with rfl|rfl|rfl
    ·exact mF (λx hx=>by
      simp only[zao,zaB,or_false]at hx;rcases hx with rfl|rfl <;> exact fC)
    ·exact fC
    ·exact fC) Hz _
  |some r=>
   obtain⟨j,k⟩:=r;obtain⟨_,l,hl,_⟩:=uy hf;rw[Nat.sub_zero]at hl;have hj:j / 2<fab.l.length:=by
    have:=(zaf.1 hl).1;omega
   have l1:=F.lt G (i:=j / 2) (s:=if j % 2=0 then 0 else 2) hj (by split <;> omega);have l2:=F.lt G (i:=j / 2) (s:=if j % 2=0 then 1 else 3) hj (by split <;> omega);refine KR λx hx=>?_;simp only[zao,zaB,or_false]at hx;rcases hx with rfl|rfl|rfl
   ·refine KQ λx hx=>?_;simp only[kU,zao,zaB,or_false]at hx;rcases hx with rfl|rfl
    ·rw[bV];exact if_pos l1
    ·rw[bV];exact if_pos l2
   ·exact iY
   ·exact iY
 cases hs:YH cl (.ref f 0 0) (I at_) H.guard with
 |none=>
  exfalso;have e2:=(xs H0).lnS;simp only[H0]at ep e2 r1;have:(YH cl (.ref f 0 0) (I at_) H.guard).map Prod.fst=some (xI P fnd):=by
   simp only[xq_,YH,ep,e2];exact r1
  rw[hs]at this;cases this
 |some r=>
  have e2:=(xs H0).lnS;simp only[H0]at ep e2 r1;have:(YH cl (.ref f 0 0) (I at_) H.guard).map Prod.fst=some (xI P fnd):=by
   simp only[xq_,YH,ep,e2];exact r1
  rw[hs]at this;simp only[zaj,zaa]at this;obtain⟨v,Hz⟩:=r;simp only at this;subst this;exact iy rfl rfl (atF _ _ _ _ hs) (hz Hz)
def Fab.pkt(f:Fab)(at_:Int):Option Pkt:=if at_<0 then none else f.all[at_.toNat]?
def acH(G:Good b H g)(F:iD g f P c fab)(y:fab.l.length<1000)(h0:fab.l.length≠0)(m:∀l∈fab.jA,l.length<1000/\∀p∈l,p.data.length<1000000000)(at_:Int)(n:qC at_):
  cl 28 [.ref f 0 0,I at_] H=some (iG (fab.pkt at_),H):=by
 have w:=G.guard.new (.blk 0 81 [zI,zI,zI,zI,zI,zI,zI,zB,zN]);have e:=acG w F y h0 (λl z=>(m l z).1) at_ n;have d:fab.jA.flatten=fab.all:=Dj fab.l;refine bg rfl rfl (as6 _ _ _ _) ?_ (C9 _);cases h:xH fab.jA 0 at_ with
 |none=>
  rw[h]at e;have q:fab.pkt at_=none:=by
   have:=Di h;rw[d]at this;unfold Fab.pkt;split
   ·rfl
   ·rw[zaI V]
  have A:([zP,zP]:List AV).all AV.aS=true:=rfl;simp only[Nat.reduceAdd,aN,xq_,hq_,akt,e,xI,A,zC,jg,dY,q,iG,fJ,zaZ,zaK,zai]
 |some r=>
  obtain⟨j,k⟩:=r;rw[h]at e;obtain⟨_,l,i,E,K,L,C⟩:=uy h;rw[Nat.sub_zero]at i;have D:=acF F i;have q:fab.pkt at_=l[k.toNat]?:=by
   unfold Fab.pkt;rw[if_neg V,<-d,C]
  have u:=λo=>ab3 (w.new o) D (m l (zas i)).1 (m l (zas i)).2 k;have hk:¬k<0:=V
  have ha:¬at_<0:=V
  simp only[hk,if_false]at u;rw[q];obtain⟨p,v⟩:∃p,l[k.toNat]?=some p:=⟨_,zab V⟩
  rw[v]at u ⊢;simp only[Nat.reduceAdd,aN,xq_,hq_,akt,e,xI,kU,ha,u,iG,zat,zaO,zae]
end
def Own.name {b:Nat}{H:ah}{m:Nat}{x:AV}{l:List AV}(c:Own b H x m l){r:Nat}(h:iE x=some r):b<=r/\r<H.next:=by
 rcases c with⟨rfl,_⟩|⟨r',g,off,n',d,ex,e,all,rfl,i,j,_⟩
 ·cases h
 ·simp only[iE,zaa]at h;omega
def acI(H:ah)(ak fwd back:Int)(bP:Bool){l:List Int}(b:l.length<1000000000){x:AV}(d:nH H x l):cl 236 [I ak,I fwd,I back,B bP,x] H=some (.agg (Ent.mk fwd back ak 0 bP l).av,H):=by
 refine bg rfl rfl (aqw _ _ _ _ _ _ _) ?_ (mF (OE _));have e:=λo=>Jb (H.guard.new o) b (d.guard.new o);simp only[Nat.reduceAdd,Nat.reduceLeDiff,aN,xq_,hq_,ajd,e,asC,aaB,jg,fK,amU,agT,Ent.av]
def aum(H:ah)(e:Ent)(w:Int):cl 222 [.agg e.av,I w] H=some (B (decide (0<=w/\w<e.data.length)),H.new (.blk 0 100 e.av)):=by
 refine bn rfl rfl (ai8 _ _ _ _ ?_);have d:=λH=>(fH H e.data).lnS;by_cases b:0<=w
 ·simp only[Nat.reduceLT,xq_,hq_,QY,aC,Ent.av,b,d]
 ·simp only[Nat.reduceLT,xq_,hq_,QY,aC,Ent.av,b,false_and]
def alb(H:ah)(e:Ent)(w:Int):cl 189 [.agg e.av,I w] H=some (I (e.word w),H):=by
 refine bg rfl rfl (apL _ _ _ _) ?_ fC;have d:=λH=>aum H e w;by_cases b:0<=w/\w<e.data.length
 ·have h:=λH=>(fH H e.data).ix (k:=.i64) (i:=w) b.1 b.2;have g:=λH=>(fH H e.data).ld (i:=w.toNat) V;have j:(e.data.map I)[w.toNat]?=some (I (e.word w)):=by
   unfold Ent.word;rw[if_pos b,zaw,zab V,zaA,zab V];rfl
  rw[j]at g;have m:e.av[5]?=some (dat e.data):=rfl;simp only[Nat.reduceLT,xq_,hq_,abL,aC,d,b,h,g,m,zae]
 ·have:e.word w=0:=by unfold Ent.word;rw[if_neg b]
  rw[this];simp only[Nat.reduceLT,xq_,hq_,abL,aC,d,b,zai]
section
variable {b:Nat}{H:ah}{g:bF}{q:Nat}
def Xz(G:Good b H g){c:Cache}(h:g q=some (dD c))(hl:c.l.length<1000000)(hs0:1<=c.sets)(ak:Int):cl 201 [.ref q 0 0,I ak] H=some (vsl 6 Ent.av (c.vH ak),H):=by
 obtain⟨x,hx,cx⟩:=G.guard.seq h (i:=0) rfl;have hs:=cx.is (n:=c.l.length) (by decide) (dF dI c.l);have e2:=hs.lnS;let p:Ent->Bool:=λe=>decide (0<=ak) && decide (e.ak.tmod c.sets=ak.tmod c.sets)
 let F:Nat->List Ent:=λj=>(c.l.take j).filter p
 have hF:∀j,(F j).length<=j:=λj=>zav (zb9 _ _) (by rw[zau];omega);have key:∀k j,j+k=c.l.length->∀Hi t,Step H.next H.guard Hi->Own H.next Hi t 6 ((F j).flatMap Ent.av)->(F j=[]->t=zN)->
   ∃t' H',FM cl [.ref q 0 0,I ak,t,x,I c.l.length,I j] Hi=some (t',H')/\Own H.next H' t' 6 ((c.vH ak).flatMap Ent.av)/\(c.vH ak=[]->t'=zN):=by
  intro k
  induction k with
  |zero=>
   intro j hj Hi t s o z;have h1:¬(j:Int)<c.l.length:=by omega
   have:F j=c.vH ak:=by
    simp only[F,Cache.vH,p];rw[zay (by omega)]
   rw[this]at o z;refine⟨t,Hi,?_,o,z⟩;rw[Xf];simp only[xq_,h1]
  |succ k ih=>
   intro j hj Hi t s o z;have h1:(j:Int)<c.l.length:=by omega
   have h6:(j:Int)+1=((j+1:Nat):Int):=by omega
   have h7:=wrap_i64 (a:=((j+1:Nat):Int)) (by omega) (by omega);obtain⟨e,he⟩:∃e,c.l[j]?=some e:=⟨_,zab (by omega)⟩
   have hsi:aH Hi x 6 c.l.length (c.l.flatMap Ent.av):=hs.iQ s.next λr _ hr=>s.low r hr
   have s1:=hsi.ix (k:=.i64) (i:=(j:Int)) (by omega) h1;rw[zam]at s1;have s2:=lX dI hsi he;have bi:Hi.base=H.next:=s.base.trans al9
   have ni:H.next<=Hi.next:=s.next
   have hbase:Hi.base<=Hi.next:=by omega
   have Gi:Good b Hi g:=G.guard.ext s.next s.low
   have l1:=(Gi.new (.blk 0 100 e.av)).load h (i:=1) (x:=I c.sets) rfl;have r0:c.sets≠0:=by omega
   have hFs:F (j+1)=F j++if p e=true then [e]else []:=by
    simp only[F,zbP,he,Option.toList_some,zcr]
    congr 1
    cases hp:p e <;> simp[hp]
   rw[Xf];by_cases hc:0<=ak/\e.ak.tmod c.sets=ak.tmod c.sets
   ·have hp:p e=true:=by simp only[p,hc.1,hc.2,decide_true,zcz]
    rw[hp,if_pos rfl]at hFs;have hm:=hF j;obtain⟨t1,H2,a1,a2,a3⟩:=((o.new (.blk 0 100 e.av)).new (.blk 0 100 e.av)).step (e:=100) (by_:=64) (n:=(F j).length) (by simp only[eF];omega) (by simp only[jh];omega) (by decide) (dF dI _) (jX (ex:=true) (n:=1) (m:=6) (l:=e.av) rfl) (jO e) (by unfold most;omega) (by unfold most;omega);have a2':Own H.next H2 t1 6 ((F (j+1)).flatMap Ent.av):=by rw[hFs,zbx];simpa using a2
    obtain⟨t',H',r1,r2⟩:=ih (j+1) (by omega) H2 t1 (((s.trans (Step.new _ ni)).trans (Step.new _ (by simp only[eF];omega))).trans a3) a2' (λhz=>by rw[hFs]at hz;simp at hz);refine⟨t',H',?_,r2⟩;simp only[eF]at a1;have lf:e.av[2]?=some (I e.ak):=rfl;simp only[Nat.reduceAdd,Nat.reduceLeDiff,aN,xq_,hq_,h1,s1,s2,hbase,hc,lf,l1,vk r0,Ba,aay,zbk,jP (m:=6) (z:=[zI,zI,zI,zI,zB,zN]) (v:=.agg e.av) rfl rfl (jO e),a1,bI,h6,h7];exact r1
   ·have hp:p e=false:=by
     simp only[p];by_cases h0:0<=ak
     ·have:¬e.ak.tmod c.sets=ak.tmod c.sets:=λh=>hc ⟨h0,h⟩;simp[this]
     ·simp[h0]
    rw[hp,if_neg (by simp),zbd]at hFs;obtain⟨t',H',r1,r2⟩:=ih (j+1) (by omega) (Hi.new (.blk 0 100 e.av)) t (s.trans (Step.new _ ni)) (by rw[hFs];exact o.new _) (by rw[hFs];exact z);refine⟨t',H',?_,r2⟩;have lf:e.av[2]?=some (I e.ak):=rfl;by_cases h0:0<=ak
    ·have hne:¬e.ak.tmod c.sets=ak.tmod c.sets:=λh=>hc ⟨h0,h⟩;simp only[Nat.reduceAdd,aN,xq_,hq_,h1,s1,s2,hbase,h0,hne,lf,l1,vk r0,Ba,bI,h6,h7,r1]
    ·simp only[Nat.reduceAdd,aN,xq_,hq_,h1,s1,s2,hbase,h0,Ba,bI,h6,h7,r1]
 obtain⟨t',H',r1,r2,r3⟩:=key c.l.length 0 (by omega) H.guard zN (Step.refl _ _) (.inl ⟨rfl,rfl⟩) (λ_=>rfl);refine iy rfl rfl (ap3 _ _ _ _ (r:=(t',H')) ?_) ?_
 ·simp only[xq_,aiZ,hx,e2];exact r1
 ·by_cases hz:c.vH ak=[]
  ·rw[r3 hz,hz,gI];exact iY
  ·rw[ET hz];refine uq r2 (by decide) (dF dI _) (λy hy=>?_) (λe=>hz (zaq e));obtain⟨a,_,ha⟩:=za5.1 hy;exact OE (d:=6) a y ha _ _
def Rt(G:Good b H g){c:Cache}(h:g q=some (dD c))(m:c.l.length<1000000)(j:1<=c.sets)(ak:Int):cl 151 [.ref q 0 0,I ak] H=some (B (c.full ak),H):=by
 refine bg rfl rfl (apn _ _ _ _) ?_ fC;have d:=Jc G.guard h m ak;have n:=Xz G.guard.guard h m j ak;have o:=(HY dI H.guard (c.vH ak)).lnS;have p:=G.guard.load h (i:=2) (x:=I c.ways) rfl;have e:(c.find ak).isNone=(c.at_ ak).isNone:=by
  rw[show c.find ak=(c.at_ ak).bind λi=>c.l[i]? from(rW c.l).symm];cases ha:c.at_ ak with
  |none=>rfl
  |some i=>
   have hi:i<c.l.length:=zbE.1 ha |>.1
   simp[zab hi]
 cases ha:c.at_ ak with
 |none=>
  rw[ha]at d e;have k:yN (none:Option Nat)=-1:=rfl;rw[k]at d;simp only[Int.reduceLT,Int.reduceNeg,xq_,abC,d,n,o,p,Cache.full,e,zdf,zaJ]
 |some i=>
  rw[ha]at d e;have k:yN (some i)=(i:Int):=rfl;rw[k]at d;have u:¬(i:Int)<0:=V
  simp only[xq_,abC,d,u,Cache.full,e,Option.isNone_some,zaL]
end
def afF(H:ah)(a e:Ent)(h:qC (a.used-e.used)):cl 203 [.agg a.av,.agg e.av] H=some (I (a.used-e.used),H):=by
 refine bg rfl rfl (ap5 _ _ _ _) ?_ fC;have w:=wrap_i64 h.1 h.2;simp only[Nat.reduceLT,xq_,hq_,ai2,aC,Ent.av,lH,w]
abbrev ajr(m:Ent)(l:List Ent):Ent:=l.foldl (λm x=>if x.used<m.used then x else m) m
def YR(H:ah)(hb:H.base<=H.next){a:Ent}{l:List Ent}(K:l.length<1000000)(y:∀e∈a::l,0<=e.used/\e.used<1000000000):
  ∃H',cl 202 [vsl 6 Ent.av (a::l),.fn (.func 203) [] []] H=some (.agg (ajr a l).av,H'):=by
 obtain⟨L,u⟩:∃L,L=a::l:=⟨_,rfl⟩
 have n:=λH=>HY dI H L;have D:L.length=l.length+1:=by rw[u];rfl
 rw[<-u]at y ⊢;let b:Ent->ah:=λm=>(H.new (.blk 0 100 [zI,zI,zI,zI,zB,zN])).new (.blk 0 100 m.av)
 have key:∀k j,j+k=L.length->∀m,m∈L->
   ∃H',FN cl [vsl 6 Ent.av L,.fn (.func 203) [] [],.ref H.next 0 0,.ref (H.next+1) 0 0,I j] (b m)=some (.agg (ajr m (L.drop j)).av,H'):=by
  intro k
  induction k with
  |zero=>
   intro j E m hm;have o:¬(j:Int)<L.length:=V
   have d:=(n (b m)).lnS;have hd:L.drop j=[]:=zaP V;refine⟨(H.new (.blk 0 100 m.av)).new (.blk 0 100 m.av),?_⟩;rw[Xg,hd];simp only[b]at d ⊢;simp only[Nat.reduceAdd,aN,xq_,hq_,d,o,hb,ajr,List.foldl_nil]
  |succ k z=>
   intro j E m hm;have o:(j:Int)<L.length:=V
   have A:(j:Int)+1=((j+1:Nat):Int):=V
   have C:=wrap_i64 (a:=((j+1:Nat):Int)) V V;obtain⟨e,v⟩:∃e,L[j]?=some e:=⟨_,zab V⟩
   have d:=(n (b m)).lnS;have h:=(n (b m)).ix (k:=.i64) (i:=(j:Int)) V o;rw[zam]at h;have p:=lX dI (n (b m)) v;have M:=y _ (zas v);have Q:=y _ hm;have w:qo Tryz.prog cl (.fn (.func 203) [] []) [.agg e.av,.agg m.av] (b m)=some (I (e.used-m.used),b m):=by
    rw[uj Z];exact afF _ e m ⟨V,V⟩
   have hd:L.drop j=e::L.drop (j+1):=by
    rw[zaT V];rw[zab V]at v;rw[zaW v]
   rw[Xg,hd];by_cases hc:e.used<m.used
   ·have q:e.used-m.used<0:=V
    obtain⟨H',g⟩:=z (j+1) V e (zas v);refine⟨H',?_⟩;simp only[b]at d h p w g ⊢;simp only[Nat.reduceAdd,aN,xq_,hq_,d,o,h,p,w,q,hb,FP,bI,A,C,ajr,zbW,hc];exact g
   ·have q:¬e.used-m.used<0:=V
    obtain⟨H',g⟩:=z (j+1) V m hm;refine⟨H',?_⟩;simp only[b]at d h p w g ⊢;simp only[Nat.reduceAdd,aN,xq_,hq_,d,o,h,p,w,q,hb,FP,bI,A,C,ajr,zbW,hc];exact g
 obtain⟨H',g⟩:=key l.length 1 V a (by rw[u];simp);refine⟨H',bn rfl rfl (ap4 _ _ _ _ ?_)⟩;let H1:=H.new (.blk 0 100 [zI,zI,zI,zI,zB,zN]);have d:=(n H1).lnS;have o:¬(L.length:Int)<1:=V
 have h:=(n H1).ix (k:=.i64) (i:=(0:Int)) V V;have p:=lX dI (n H1) (i:=0) (a:=a) (by rw[u];rfl);rw[show((0:Int).toNat)=0 from rfl]at h;have F:L.drop 1=l:=by rw[u];rfl
 rw[F]at g;simp only[b]at g;simp only[H1]at d h p;have G:((1:Nat):Int)=1:=rfl;rw[G]at g;simp only[Nat.reduceAdd,aN,xq_,hq_,ai1,Oo,d,o,h,p,hb];exact g
section
variable {b:Nat}{H:ah}{g:bF}{q:Nat}
def ald(c:Cache)(ak:Int):∀e∈c.vH ak,e∈c.l:=λe b=>(zbv.1 b).1
def U5(G:Good b H g){c:Cache}(h:g q=some (dD c))(o:c.l.length<1000000)(m:1<=c.sets)(p:∀e∈c.l,0<=e.used/\e.used<1000000000)(ak:Int):
  cl 152 [.ref q 0 0,I ak] H=some (.tup [I ((c.qB ak).getD 0),B (c.qB ak).isSome],H):=by
 refine bg rfl rfl (apo _ _ _ _) ?_ (wW λx n=>by
  simp only[zao,zaB,or_false]at n;rcases n with rfl|rfl <;> exact fC)
 have j:=Xz G.guard h o m ak;have k:=(HY dI H.guard (c.vH ak)).lnS;have d:(c.vH ak).length<=c.l.length:=zb9 _ _;cases i:c.vH ak with
 |nil=>
  rw[i]at j k;have hv:c.qB ak=none:=by simp[Cache.qB,i,zF]
  simp only[xq_,abD,j,k,hv,zan,Int.ofNat_zero,zaZ,zaK]
 |cons a l=>
  rw[i]at j k d;have hv:c.qB ak=some (ajr a l).ak:=by simp[Cache.qB,i,zF]
  obtain⟨H',u⟩:=YR H.guard (zac _) (a:=a) (l:=l) (by simp only[zak]at d;omega) (λe v=>p e (ald c ak e (by rw[i];exact v)));have w:¬((a::l).length:Int)=0:=by simp only[zak];omega
  have lf:(ajr a l).av[2]?=some (I (ajr a l).ak):=rfl;simp only[xq_,abD,j,k,w,u,hv,lf,zat,zaO]
end
def LD {α:Type}{enc:α->List AV}{m:Nat}(b:∀a,(enc a).length=m){a':α}{o:Nat}{vs:List AV}(e:o+vs.length<=m):∀(l:List α) (i:Nat) (a:α),l[i]?=some a->aN (enc a) o vs=enc a'->aN (l.flatMap enc) (i*m+o) vs=(l.set i a').flatMap enc
 |[],i,a,h,_=>by simp at h
 |x::l,0,a,h,hv=>by
  simp only[zaY,zaa]at h;subst h;have d:=b x;rw[zb7,zaE,zaE,<-hv];unfold aN;rw[zbq,za7,zcl V,List.drop_append_of_le_length V];simp only[zba]
 |x::l,i+1,a,h,hv=>by
  have d:=b x;have g:=LD b e l i a (by simpa using h) hv;rw[zb8,zaE,zaE,<-g];unfold aN;have j:(i+1)*m+o=(enc x).length+(i*m+o):=by rw[d,zbF,zbk];omega
  have k:(i+1)*m+o+vs.length=(enc x).length+(i*m+o+vs.length):=by rw[d,zbF,zbk];omega
  rw[k,j,List.take_length_add_append,List.drop_length_add_append,zba]
section
variable {b:Nat}{H:ah}{g:bF}{q:Nat}
def Ru(G:Good b H g)(hb:H.base<=b){c:Cache}(h:g q=some (dD c)){x:AV}(k:Cur b H q 0 x 6 (c.l.flatMap Ent.av)){i:Nat}{e e':Ent}(hi:c.l[i]?=some e):
  ∃r gg off,eP x i=.ref r gg off/\∀(w o:Nat) (v:AV),v.cells.length=w->v.cells.all AV.aS=true->o+w<=6->aN e.av o v.cells=e'.av->
   ∃H',st w (.ref r gg (off+o)) v H=some (aY,H')/\Good b H' (upd g q (dD { c with l:=c.l.set i e' }))/\Step b H H'/\H'.next=H.next:=by
 obtain⟨r,gg,off,m,n⟩:=G.elem hb h (i:=0) rfl J (dF dI c.l) k (j:=i) (zaf.1 hi).1;refine⟨r,gg,off,m,λw o v p u y z=>?_⟩;obtain⟨H',A,d,C⟩:=n w o v p u y;refine⟨H',A,?_,C⟩;have:=LD dI (o:=o) (vs:=v.cells) V c.l i e hi z;rw[this]at d;exact d
def YS(G:Good b H g)(hb:H.base<=b){c:Cache}(h:g q=some (dD c))(A:c.l.length<1000000)(hk:0<=c.dM/\c.dM<1000000000)(ak:Int):
  ∃H',cl 150 [.ref q 0 0,I ak] H=some (B (c.at_ ak).isSome,H')/\Good b H' (upd g q (dD (c.touch ak)))/\Step b H H':=by
 refine kN rfl rfl (apl _ _ _ _) ?_;have d:=Jc G h A ak;cases ha:c.at_ ak with
 |none=>
  rw[ha]at d;have j:yN (none:Option Nat)=-1:=rfl;rw[j]at d;refine⟨H,?_,by rw[show c.touch ak=c by simp[Cache.touch,ha],fO h];exact G,Step.refl _ _⟩;simp only[Int.reduceLT,Int.reduceNeg,xq_,abB,d,zaK]
 |some i=>
  rw[ha]at d;have j:yN (some i)=(i:Int):=rfl;rw[j]at d;have C:¬(i:Int)<0:=V
  have hi:i<c.l.length:=zbE.1 ha |>.1
  obtain⟨e,u⟩:∃e,c.l[i]?=some e:=⟨_,zab hi⟩
  have D:=G.load h (i:=3) (x:=I c.dM) rfl;have w1:=wrap_i64 (a:=c.dM+1) V V;obtain⟨H1,E,m,w,X⟩:=G.store hb h (i:=3) (v:=I (c.dM+1)) (by simp[dD]) dV;have o:upd g q ((dD c).set 3 (.av (I (c.dM+1)))) q=some (dD { c with dM:=c.dM+1 }):=aT;have F:=m.load o (i:=3) (x:=I (c.dM+1)) rfl;obtain⟨x,K,y⟩:=m.seq o (i:=0) rfl;have L:=y.is (n:=c.l.length) J (dF dI c.l);have p:=L.ix (k:=.i64) (i:=(i:Int)) V V;rw[zam]at p;obtain⟨r,gg,off,M,Q⟩:=Ru m (by rw[w.base];exact hb) o y (e':={ e with used:=c.dM+1 }) u;obtain⟨R,T,z,W,t4⟩:=Q 1 3 (I (c.dM+1)) rfl rfl J rfl;rw[M]at p;refine⟨R,?_,?_,w.trans W⟩
  ·simp only[xq_,abB,d,C,D,bI,w1,E,K,F,p,T,zaO]
  ·rw[pz]at z;have:c.touch ak={ c with l:=c.l.set i { e with used:=c.dM+1 },dM:=c.dM+1 }:=by
    simp only[Cache.touch,ha];rw[zaA,u];rfl
   rw[this];exact z
def ale {i n:Nat}{x:AV}{l:List AV}(c:Cur b H q i x 6 l)(hb:H.base<=b)(g:l.length=n*6)(k:n<1000000000){j:Nat}(m:j<n):
  ∃h H',cl 242 [x,I j,I (j+1)] H=some (h,H')/\Fit H H' x h 6 (l.take (j*6)++l.drop ((j+1)*6))/\H'.next=H.next/\H'.base=H.base/\∀r,iE x≠some r->H'.get r=H.get r:=by
 obtain⟨y,K,L,o,H1,M,p,u,v,w,A,C,D,E,f,n1,F,k1⟩:=Wx c hb J g k m (z:=[zI,zI,zI,zI,zB,zN]) rfl rfl (e:=100) (by_:=64) J;have G:=(c.is J g).lnS;have d:((j:Int)=j+1)=False:=eq_false V;refine⟨o,p,bn rfl rfl (aqC _ _ _ _ _ ?_),f,n1,F,k1⟩;simp only[xq_,ajg,G,u,v,w,A,C,D,E,d]
def acJ(G:Good b H g)(hb:H.base<=b){c:Cache}(h:g q=some (dD c))(C:c.l.length<1000000){j:Nat}(p:j<c.l.length):
  ∃x e H1 d,ld (.ref q 0 0) H=some (x,H)/\cl 242 [x,I j,I (j+1)] H=some (e,H1)/\st 1 (.ref q 0 0) e H1=some (aY,d)/\Good b d (upd g q (dD { c with l:=c.l.eraseIdx j }))/\Step b H d:=by
 obtain⟨x,u,k⟩:=G.seq h (i:=0) rfl;obtain⟨e,H1,v,n,D,w,o⟩:=ale k hb (dF dI c.l) V p;rw[Lj dI]at n;obtain⟨d,y,z,A,E⟩:=G.seat h (i:=0) rfl k V V  (λr _ m=>o r m) n;exact⟨x,e,H1,d,u,v,y,z,Step.trans ⟨w,V,λr m=>o r (k.low m)⟩ A⟩
def Je(G:Good b H g)(hb:H.base<=b){c:Cache}(h:g q=some (dD c))(hl:c.l.length<1000000)(hd:∀e∈c.l,e.data.length<1000000000)(ak:Int):
  ∃H',cl 232 [.ref q 0 0,I ak] H=some (jG (c.find ak),H')/\Good b H' (upd g q (dD (c.drop ak)))/\Step b H H':=by
 have hq:=G.lt h;have G1:=G.newObj (ty:=100) (xs:=[zI,zI,zI,zI,zB,zN]) rfl;have h1:upd g H.next ([zI,zI,zI,zI,zB,zN].map .av) q=some (dD c):=by rw[bD (by omega)];exact h
 have e1:=nI G1 h1 hl hd ak;have hb0:H.base<=H.next:=zav hb G.1
 refine kN rfl rfl (aqu _ _ _ _) ?_;have hf:c.find ak=(c.at_ ak).bind λi=>c.l[i]?:=(rW c.l).symm;cases ha:c.at_ ak with
 |none=>
  rw[ha]at hf;have hf:c.find ak=none:=hf;rw[hf]at e1;simp only[jG,zaZ,zaK,rV]at e1;have hdr:c.drop ak=c:=by simp[Cache.drop,ha]
  simp only[Nat.reduceAdd,aN,xq_,hq_,zaa,zad,exists_eq_left',abU,e1,FW,jG,hf,zaZ,zaK,rV,hb0];rw[hdr,fO h];exact⟨(G.new _).new _,(Step.new _ G.1).trans (Step.new _ (G.new _).1)⟩
 |some i=>
  have hi:i<c.l.length:=zbE.1 ha |>.1
  obtain⟨e,he⟩:∃e,c.l[i]?=some e:=⟨_,zab hi⟩
  rw[ha]at hf;have hf:c.find ak=some e:=by rw[hf];exact he
  rw[hf]at e1;simp only[jG,zat,zaO]at e1;have G2:=G1.newObj (ty:=100) (xs:=e.av) (jO _);have h2:upd (upd g H.next ([zI,zI,zI,zI,zB,zN].map .av)) (H.next+1) (e.av.map .av) q=some (dD c):=by rw[bD (by omega)];exact h1
  have e2:=Jc G2 h2 hl ak;have hn:yN (some i)=(i:Int):=rfl;rw[ha,hn]at e2;obtain⟨x,x',K1,K2,s1,s2,s3,s4,s5⟩:=acJ G2 (by rw[jh,jh];omega) h2 hl hi;have G3:Good b K2 _:=s4;let gz:=upd (upd (upd g H.next ([zI,zI,zI,zI,zB,zN].map .av)) (H.next+1) (e.av.map .av)) q (dD { c with l:=c.l.eraseIdx i });have q2:gz (H.next+1)=some (e.av.map .av):=by simp only[gz];rw[bD (by omega),aT]
  have q1:gz H.next=some ([zI,zI,zI,zI,zB,zN].map .av):=by simp only[gz];rw[bD (by omega),bD (by omega),aT]
  have l2:=G3.loads q2 (i:=0) (n:=6) (xs:=e.av) rfl rfl (by decide);obtain⟨K3,t1,t2,t3,t4⟩:=G3.stores (by rw[s5.base,jh,jh];exact hb) q1 (i:=0) (n:=6) (vs:=e.av) (by decide) rfl (jO _);have l3:=t2.loads aT (i:=0) (n:=6) (xs:=e.av) rfl rfl (by decide);have w1:=wrap_i64 (a:=(i:Int)+1) (by omega) (by omega);have hdr:c.drop ak={ c with l:=c.l.eraseIdx i }:=by simp[Cache.drop,ha]
  simp only[Nat.reduceAdd,aN,xq_,hq_,zaa,zad,exists_eq_left',abU,e1,FW,jG,hf,zat,zaO,hb0,e2,bI,w1,s1,s2,s3,l2,t1,l3,hdr];have n1:g H.next=none:=G.isNone (zac _)
  have n2:g (H.next+1)=none:=G.isNone (by omega);exact⟨t2.sub (((((uJ.refl g).more n1 _).more n2 _).both q _).more (Ah n1 (by omega)) _),(((Step.new _ G.1).trans (Step.new _ (G.new _).1)).trans s5).trans t3⟩
end
section
variable {b:Nat}{H:ah}{g:bF}{q:Nat}
def XA(G:Good b H g)(hb:H.base<=b){c:Cache}(h:g q=some (dD c))(hl:c.l.length<1000000)(hs0:1<=c.sets)(hk:0<=c.dM/\c.dM<1000000000)(e:Ent){x:AV}(hel:e.data.length<1000000000)(hx:nH H x e.data):
  ∃H',cl 191 [.ref q 0 0,.agg (e.avx x)] H=some (I (c.put e).2,H')/\Good b H' (upd g q (dD (c.put e).1))/\Step b H H':=by
 have hq:=G.lt h;have hb0:H.base<=H.next:=zav hb G.1
 have ax:=afD (p:=e) hx.one;have e0:=Xy (H.new (.blk 0 100 (e.avx x))) e hel (hx.new _);have ll:(e.avx x).length=6:=rfl;have lt:(e.avx x).take 6=e.avx x:=rfl;have l6:(e.avx x).drop 6=[]:=rfl;let H1:=H.new (.blk 0 100 e.av);have G1:Good b H1 g:=G.new _;have lf:e.av[2]?=some (I e.ak):=rfl;refine kN rfl rfl (apN _ _ _ _) ?_;by_cases hneg:e.ak<0
 ·have hp:c.put e=(c,1):=by simp only[Cache.put];rw[if_pos hneg]
  rw[hp];refine⟨H1,?_,by rw[fO h];exact G1,Step.new _ G.1⟩;simp only[Nat.reduceLT,aN,xq_,hq_,QV,aC ax,ll,lt,l6,e0,hb0,lf,hneg];rfl
 ·have e1:=Jc G1 h hl e.ak;cases ha:c.at_ e.ak with
  |some i=>
   rw[ha]at e1;have hn:yN (some i)=(i:Int):=rfl;rw[hn]at e1;have h0:(0:Int)<=i:=by omega
   have hi:i<c.l.length:=zbE.1 ha |>.1
   obtain⟨o,ho⟩:∃o,c.l[i]?=some o:=⟨_,zab hi⟩
   obtain⟨y,hy0,cy⟩:=G.seq h (i:=0) rfl;have c1:=cy.new (.blk 0 100 e.av);have y1:=c1.load;have hs:=c1.is (n:=c.l.length) (by decide) (dF dI c.l);have e3:=hs.ix (k:=.i64) (i:=(i:Int)) (by omega) (by omega);rw[zam]at e3;have e4:=hs.ahg (i:=i) (o:=3) hi (by decide);rw[acp dI c.l i o ho (by decide)]at e4;let e':Ent:={ e with used:=o.used }
   let H2:=H.new (.blk 0 100 e'.av);have G2:Good b H2 g:=G.new _;have c2:=cy.new (.blk 0 100 e'.av);have y2:=c2.load;have hs2:=c2.is (n:=c.l.length) (by decide) (dF dI c.l);have e5:=hs2.ix (k:=.i64) (i:=(i:Int)) (by omega) (by omega);rw[zam]at e5;obtain⟨r,gg,off,p1,p2⟩:=Ru G2 hb h c2 (e':=e') ho;obtain⟨H3,t1,t2,t3,t4⟩:=p2 6 0 (.agg e'.av) rfl (jO e') (by decide) (by simp only[eH];rfl);rw[p1]at e3 e4 e5;rw[rC]at e4;have ou:o.av[3]?=some (I o.used):=rfl;simp only[za4,ou,zaj]at e4;rw[zbL]at t1;have hp:c.put e=({ c with l:=c.l.set i e' },0):=by
    simp only[Cache.put];rw[if_neg hneg,ha];simp only[e',zaA,ho,zat]
   rw[hp];refine⟨H3,?_,t2,(Step.new _ G.1).trans t3⟩;simp only[H1,Ent.av]at e1 y1 e3 e4;simp only[H2,e',Ent.av]at y2 e5 t1;simp only[Nat.reduceLT,Nat.reduceAdd,aN,xq_,hq_,QV,aC ax,ll,lt,l6,e0,hb0,hneg,e1,h0,y1,e3,e4,Ent.av,y2,e5,t1]
  |none=>
   rw[ha]at e1;have hn:yN (none:Option Nat)=-1:=rfl;rw[hn]at e1;have e2:=Rt G1 h hl hs0 e.ak;simp only[H1]at e1 e2;cases hf:c.full e.ak with
   |true=>
    have hp:c.put e=(c,5):=by simp only[Cache.put];rw[if_neg hneg,ha];simp only[hf,if_true]
    rw[hp];rw[hf]at e2;refine⟨H1,?_,by rw[fO h];exact G1,Step.new _ G.1⟩;simp only[Nat.reduceLT,Int.reduceLE,Int.reduceNeg,aN,xq_,hq_,QV,aC ax,ll,lt,l6,e0,hb0,lf,hneg,e1,e2];rfl
   |false=>
    rw[hf]at e2;let e':Ent:={ e with used:=c.dM+1 }
    have hp:c.put e=({ c with l:=c.l++[e'],dM:=c.dM+1 },0):=by simp only[Cache.put];rw[if_neg hneg,ha];simp only[hf,zal,if_false];rfl
    rw[hp];have F1:=G.newObj (ty:=100) (xs:=e.av) (jO e);have f1:upd g H.next (e.av.map .av) q=some (dD c):=by rw[bD (by omega)];exact h
    have l1:=F1.load f1 (i:=3) (x:=I c.dM) rfl;have w1:=wrap_i64 (a:=c.dM+1) (by omega) (by omega);obtain⟨H2,s1,F2,s3,s4⟩:=F1.store hb f1 (i:=3) (v:=I (c.dM+1)) (by simp[dD]) dV;have f2:upd (upd g H.next (e.av.map .av)) q ((dD c).set 3 (.av (I (c.dM+1)))) q=some (dD { c with dM:=c.dM+1 }):=aT;have l2:=F2.load f2 (i:=3) (x:=I (c.dM+1)) rfl;have f3:upd (upd g H.next (e.av.map .av)) q ((dD c).set 3 (.av (I (c.dM+1)))) H.next=some (e.av.map .av):=by rw[bD (by omega),aT]
    obtain⟨H3,t1,F3,t3,t4⟩:=F2.store (by rw[s3.base];exact hb) f3 (i:=3) (v:=I (c.dM+1)) (by simp[Ent.av]) dV;have f4:upd (upd (upd g H.next (e.av.map .av)) q ((dD c).set 3 (.av (I (c.dM+1))))) H.next ((e.av.map .av).set 3 (.av (I (c.dM+1)))) q=some (dD { c with dM:=c.dM+1 }):=by rw[bD (by omega)];exact f2
    have l4:=F3.loads aT (i:=0) (n:=6) (xs:=e'.av) rfl rfl (by decide);obtain⟨y,hy,cy⟩:=F3.seq f4 (i:=0) rfl;obtain⟨x',K1,K2,a1,a2,a3,a4⟩:=(F3.new (.blk 0 100 e'.av)).append (e:=100) (by_:=64) (n:=c.l.length) (by rw[jh,t3.base,s3.base];exact hb) f4 (i:=0) rfl (by decide) (dF dI c.l) (cy.new _) (jX (ex:=true) (n:=1) (m:=6) (l:=e'.av) rfl) (jO e') (by unfold most;omega) (by unfold most;omega);refine⟨K2,?_,?_,(((Step.new _ G.1).trans s3).trans t3).trans ((Step.new _ F3.1).trans a4)⟩
    ·simp only[Nat.reduceLT,Int.reduceLE,Int.reduceNeg,Nat.reduceLeDiff,aN,xq_,hq_,QV,aC ax,ll,lt,l6,e0,hb0,lf,hneg,e1,e2,l1,bI,w1,s1,l2,t1,hy,l4,aay,zbk,jP (m:=6) (z:=[zI,zI,zI,zI,zB,zN]) (v:=.agg e'.av) rfl rfl (jO e'),a1,a2]
    ·refine a3.sub λq' cs hq'=>?_;have n1:g H.next=none:=G.isNone (zac _)
     unfold upd at hq' ⊢;by_cases e3:q'=q
     ·rw[if_pos e3]at hq' ⊢;cases hq';simp[dD]
     ·rw[if_neg e3]at hq' ⊢;have:q'≠H.next:=λe4=>by rw[e4,n1]at hq';cases hq'
      rw[if_neg this,if_neg e3,if_neg this];exact hq'
end
def Rw:∀(es:List (Int × AV)) (n:Int) (v:AV),MF es n v=mO es n v
 |[],_,_=>rfl
 |(k,w)::es,n,v=>by
  simp only[MF,mO];split
  ·rfl
  ·rw[Rw es n v]
def OH {α:Type}:∀{es:List (Int × α)} {n:Int} {v:α} {j:Nat} {n':Int} {w:α},(es.map (·.1)).Nodup->(mO es n v)[j]?=some (n',w)->(n'=n/\w=v)∨(n'≠n/\es[j]?=some (n',w))
 |[],n,v,j,n',w,_,h=>by
  simp only[mO]at h;cases j with
  |zero=>simp only[zaY,zaa,zad]at h;exact .inl ⟨h.1.symm,h.2.symm⟩
  |succ j=>simp at h
 |(m,o)::es,n,v,j,n',w,b,h=>by
  simp only[zaD,za1]at b;simp only[mO]at h;split at h
  ·rename_i e;cases j with
   |zero=>simp only[zaY,zaa,zad]at h;exact .inl ⟨h.1.symm,h.2.symm⟩
   |succ j=>
    simp only[zbe]at h;refine .inr ⟨λd=>b.1 ?_,by simpa using h⟩;rw[e,<-d];exact zaM.2 ⟨_,zas h,rfl⟩
  ·rename_i e;cases j with
   |zero=>
    simp only[zaY,zaa,zad]at h;refine .inr ⟨λd=>e (by rw[h.1,d]),by simp[h.1,h.2]⟩
   |succ j=>
    simp only[zbe]at h;rcases OH b.2 h with g|⟨i,k⟩
    ·exact .inl g
    ·exact .inr ⟨i,by simpa using k⟩
def LG {α β:Type}:∀{es:List (Int × α)} {b:List (Int × β)} {n:Int} {v:α} {w:β},b.map (·.1)=es.map (·.1)->(mO b n w).map (·.1)=(mO es n v).map (·.1)
 |[],[],_,_,_,_=>rfl
 |[],_::_,_,_,_,h=>by simp at h
 |_::_,[],_,_,_,h=>by simp at h
 |(k,d)::es,(k',w0)::b,n,v,w,h=>by
  simp only[zaD,zbQ]at h;obtain⟨rfl,h⟩:=h;simp only[mO];split
  ·simp[h]
  ·simp only[zaD,zbQ,true_and];exact LG h
section
variable {b:Nat}{H:ah}{g:bF}{q:Nat}{cs:List Cell}
def Good.OI(G:Good b H g)(h:g q=some cs){i m:Nat}{k:IntKind}{es:List (Int × List AV)}(hi:cs[i]?=some (.maps k m es))(hnd:(es.map (·.1)).Nodup)(n:Int):
  ∃r x,ld (.ref q 0 i) H=some (.mp r,H)/\lk k (.slice none 0 0) (.mp r) (.s (.int k n)) false H=some (x,H)/\Own b H x m ((jY es n).getD [])/\iE x≠some q/\q<H.next/\(∀r',iE x=some r'->b<=r')/\
   ∀H1 x' l',H.next<=H1.next->H1.base<=b->(∀r',r'<H.next->iE x≠some r'->H1.get r'=H.get r')->Fit H H1 x x' m l'->
    ∃H',mup k (.mp r) (.s (.int k n)) x' H1=some (aY,H')/\Good b H' (upd g q (cs.set i (.maps k m (mO es n l'))))/\Step b H1 H'/\H'.next=H1.next:=by
 obtain⟨h0,τ,hR⟩:=G;have R:=hR q cs h;obtain⟨ty,xs,h1,h2,h3,h4⟩:=R.blk;have hqn:=R.hi;have hlt:i<xs.length:=by rw[h2];exact(zaf.1 hi).1
 have hx:xs[i]?=some (xs[i]'hlt):=zab hlt;have:=h4 i _ _ hi hx;simp only[CR]at this;obtain⟨aes,⟨r,e,t1,t2,t3,t4⟩,a2,a3⟩:=this;rw[e]at hx;have hrq:q≠r:=by intro e;subst e;rw[R.tag]at t1;cases t1
 obtain⟨x,x1,x2⟩:∃x,OS b H τ (q,i+1,1,n) x m ((jY es n).getD [])/\lk k (.slice none 0 0) (.mp r) (.s (.int k n)) false H=some (x,H):=by
  cases hn:jY es n with
  |none=>
   have hf:ql aes n=none:=by rw[uw];exact(Ro a2).1 hn
   refine⟨zN,.inl ⟨rfl,rfl⟩,?_⟩;simp only[lk,kV,bQ,zaj,lkO,t4,and_self,if_true,hf];rfl
  |some l=>
   obtain⟨j,w,b1,b2,b3⟩:=Ja a2 hn;refine⟨w,a3 j n l w b2 b3,?_⟩;simp only[lk,kV,bQ,zaj,lkO,t4,and_self,if_true,uw,b1];rfl
 have htag:∀r',iE x=some r'->τ r'=some (q,i+1,1,n)/\b<=r':=by
  intro r' hr;rcases x1 with⟨rfl,_⟩|⟨r0,gg,off,n',cap,ex,ty',all,rfl,k1,k2,_⟩
  ·cases hr
  ·simp only[iE,zaa]at hr;subst hr;exact⟨k1,k2⟩
 have hxq:iE x≠some q:=λe=>by have:=(htag q e).1;rw[R.tag]at this;cases this
 have hxr:iE x≠some r:=λe=>by have:=(htag r e).1;rw[t1]at this;simp at this
 refine⟨r,x,by rw[dU h1,hx];rfl,x2,x1.own,hxq,hqn,λr' hr=>(htag r' hr).2,λH1 x' l' hn hb hk hf=>?_⟩;have hg1:H1.get r=.map k aes:=by rw[hk r t3 hxr,t4]
 refine⟨H1.put r (.map k (MF aes n x')),?_,?_,Step.put _ t2,rfl⟩
 ·simp only[mup,hg1];rw[if_pos ⟨trivial,trivial,by omega⟩]
 ·refine xX (τ':=λr'=>if H.next<=r' then some (q,i+1,1,n)else τ r') h0 hR (show H.next<=H1.next from hn) (λr' hr ht=>⟨by rw[if_neg (by omega)],?_⟩)
   ⟨by rw[if_neg (by omega)];exact R.tag,R.lo,show q<H1.next by omega,wu (xs:=xs) (by rw[dP,if_neg hrq,hk q hqn hxq];exact h1) (R.tyl _ _ _ h1),ty,xs,by rw[dP,if_neg hrq,hk q hqn hxq];exact h1,by simp[h2],h3,λj cc y hc hy=>?_⟩
  ·rw[dP,if_neg (by intro e;subst e;exact ht _ _ _ t1)];exact hk r' hr λe=>ht _ _ _ (htag r' e).1
  ·rcases nC hc with⟨rfl,rfl⟩|⟨hj,hc⟩
   ·rw[hx]at hy;cases hy;refine⟨mO aes n x',⟨r,rfl,by simp only;rw[if_neg (by omega)];exact t1,t2,show r<H1.next by omega,by rw[dP,if_pos rfl,Rw]⟩,LG a2,λj' n' cells y' h5 h6=>?_⟩;rcases OH hnd h5 with⟨rfl,rfl⟩|⟨hne,h5⟩
    ·rcases OH (by rw[a2];exact hnd) h6 with⟨_,rfl⟩|⟨hne,_⟩
     ·rcases hf with hf|⟨r0,gg,off,n'',cap,ex,ty',all,rfl,k1,k2,k3,k4,k5⟩
      ·exact .inl hf
      ·have hr0:r0≠r:=by
        rcases k1 with k1|k1
        ·intro e;subst e;exact hxr k1
        ·omega
       refine .inr ⟨r0,gg,off,n'',cap,ex,ty',all,rfl,?_,?_,k2,k3,by rw[dP,if_neg hr0];exact k4,k5⟩
       ·show(if H.next<=r0 then some (q,j+1,1,n')else τ r0)=some (q,j+1,1,n');split
        ·rfl
        ·rcases k1 with k1|k1
         ·exact(htag r0 k1).1
         ·omega
       ·rcases k1 with k1|k1
        ·exact(htag r0 k1).2
        ·omega
     ·exact absurd rfl hne
    ·rcases OH (by rw[a2];exact hnd) h6 with⟨h7,_⟩|⟨_,h6⟩
     ·exact absurd h7 hne
     ·refine(a3 j' n' cells y' h5 h6).keep (show H.next<=H1.next from hn) λr' hr ht=>⟨by rw[if_neg (by omega)];exact ht,?_⟩
      rw[dP,if_neg (by intro e;subst e;rw[t1]at ht;simp at ht)];refine hk r' hr λe=>?_;have:=(htag r' e).1;rw[this]at ht;simp only[zaa,zad,true_and]at ht;exact hne ht.symm
   ·refine(h4 j cc y hc hy).keep (show H.next<=H1.next from hn) λr' s t hr ht=>⟨by rw[if_neg (by omega)];exact ht,?_⟩
    rw[dP,if_neg (by intro e;subst e;rw[t1]at ht;simp only[zaa,zad,zcc]at ht;exact hj ht.2.1.symm)];refine hk r' hr λe=>?_;have:=(htag r' e).1;rw[this]at ht;simp only[zaa,zad,zcc]at ht;exact hj ht.2.1.symm
def Good.alf(G:Good b H g)(h:g q=some cs){i m:Nat}{k:IntKind}{es:List (Int × List AV)}(hi:cs[i]?=some (.maps k m es)):
  ∃r aes,ld (.ref q 0 i) H=some (.mp r,H)/\r<H.next/\H.get r=.map k aes/\aes.map (·.1)=es.map (·.1):=by
 obtain⟨h0,τ,hR⟩:=G;have R:=hR q cs h;obtain⟨ty,xs,h1,h2,h3,h4⟩:=R.blk;have hlt:i<xs.length:=by rw[h2];exact(zaf.1 hi).1
 have hx:xs[i]?=some (xs[i]'hlt):=zab hlt;have:=h4 i _ _ hi hx;simp only[CR]at this;obtain⟨aes,⟨r,e,t1,t2,t3,t4⟩,a2,a3⟩:=this;rw[e]at hx;exact⟨r,aes,by rw[dU h1,hx];rfl,t3,t4,a2⟩
end
abbrev Dk(t:Turns):List (Int × List AV):=t.wait.map λe=>(e.1,e.2.flatMap JJ)
def Dl(t:Turns):(Dk t).map (·.1)=t.wait.map (·.1):=by simp[Dk]
def Jf(t:Turns)(ak:Int):(jY (Dk t) ak).getD []=(t.ws ak).flatMap JJ:=by
 rw[Dk,OG (λl:List (Int × Int)=>l.flatMap JJ)];unfold Turns.ws;cases jY t.wait ak <;> rfl
def Rx(w:List (Int × List (Int × Int)))(ak:Int)(l:List (Int × Int)):mO (w.map λe=>(e.1,e.2.flatMap JJ)) ak (l.flatMap JJ)=(mO w ak l).map λe=>(e.1,e.2.flatMap JJ):=by
 induction w with
 |nil=>rfl
 |cons e w b=>
  obtain⟨k,v⟩:=e;simp only[zaD,mO];split
  ·rfl
  ·rw[b];rfl
section
variable {b:Nat}{H:ah}{g:bF}{q:Nat}
def afG(G:Good b H g)(hb:H.base<=b){t:Turns}(h:g q=some (iT t))(hw:(t.wait.map (·.1)).Nodup)(ak who id:Int)(hl:(t.ws ak).length<1000000):
  ∃H',cl 227 [.ref q 0 0,I ak,I who,I id] H=some (B (t.ask ak who id).2,H')/\Good b H' (upd g q (iT (t.ask ak who id).1))/\Step b H H':=by
 refine kN rfl rfl (aqn _ _ _ _ _ _) ?_;have A:=yw G h ak;have Q:=xG G h ak;by_cases d:who<0
 ·have C:t.ask ak who id=(t,false):=by simp only[Turns.ask];rw[if_pos d]
  rw[C];refine⟨H,?_,by rw[fO h];exact G,Step.refl _ _⟩;simp only[xq_,QZ,d]
 ·by_cases hc:(t.owned ak || !(t.ws ak).isEmpty)=true
  ·have C:t.ask ak who id=({ t with wait:=mO t.wait ak (t.ws ak++[(who,id)]) },false):=by simp only[Turns.ask];rw[if_neg d,if_pos hc]
   rw[C];obtain⟨r,x,F,K,f3,f4,f5,f6,f7⟩:=G.OI h (i:=1) rfl (by rw[show t.wait.map (λe=>(e.1,e.2.flatMap λw=>[I w.1,I w.2]))=Dk t from rfl,Dl];exact hw) ak;rw[show t.wait.map (λe=>(e.1,e.2.flatMap λw=>[I w.1,I w.2]))=Dk t from rfl,Jf]at f3;let o:gB:=.blk 0 322 [I who,I id];obtain⟨x',H1,R,T,a3,a4,a5⟩:=(f3.new o).app (e:=322) (by_:=16) (n:=(t.ws ak).length) (by rw[jh];exact hb) J (dF (enc:=JJ) (λ_=>rfl) _) (jX (ex:=true) (n:=1) (m:=2) (l:=[I who,I id]) rfl) rfl (by unfold most;omega) (by unfold most;omega);have W:Fit H H1 x x' 2 ((t.ws ak++[(who,id)]).flatMap JJ):=by
    rw[zbx];rcases T with T|⟨r0,gg,off,n',X,ex,ty,all,k0,k1,k2⟩
    ·exact .inl T
    ·exact .inr ⟨r0,gg,off,n',X,ex,ty,all,k0,k1.imp (λh=>h) λh=>zav (za8 _) h,k2⟩
   have j:∀r',r'<H.next->iE x≠some r'->H1.get r'=H.get r':=λr' p aa=>by rw[a5 r' (zax p (za8 _)) aa,bC p]
   obtain⟨H',L,M,m3,m4⟩:=f7 H1 x' _ (zav (za8 _) a3) (by rw[a4,jh];exact hb) j W;have ab:H1.get q=(H.new o).get q:=by rw[j q f5 f4,bC f5]
   refine⟨H',?_,?_,Step.trans ⟨by rw[a4,jh],zav (za8 _) a3,λr' p=>j r' (zax p G.1) λe=>by have:=f6 r' e;omega⟩ m3⟩
   ·have u:∀{β:Type} (k:Option β),ck (bQ (.ref q 0 1)) (H.new o) H1 k=k:=λk=>YO λr' p=>by
     simp only[bQ,zaa]at p;subst p;exact ab
    have ed:bd 322 [(0,I who),(1,I id)]=some (.agg [I who,I id]):=by
     simp only[xq_,ane,jg,fK,ahd];rfl
    have eb:=jP (e:=322) (m:=2) (z:=[zI,zI]) (v:=.agg [I who,I id]) (H:=H) rfl rfl rfl;simp only[eH]at eb;simp only[o]at R u;cases D:t.owned ak with
    |true=>
     rw[D]at A;simp only[xq_,QZ,d,A,F,K,ed,agS,zbk,Nat.reduceLeDiff,eb,R,L,u]
    |false=>
     rw[D]at A hc;have y:(0:Int)<(t.ws ak).length:=by
      cases E:t.ws ak with
      |nil=>rw[E]at hc;simp at hc
      |cons a l=>simp only[zak];omega
     simp only[xq_,QZ,d,A,Q,y,F,K,ed,agS,zbk,Nat.reduceLeDiff,eb,R,L,u]
   ·have:iT { t with wait:=mO t.wait ak (t.ws ak++[(who,id)]) }=(iT t).set 1 (.maps .i64 2 (mO (Dk t) ak ((t.ws ak++[(who,id)]).flatMap JJ))):=by
     rw[Rx];rfl
    rw[this];exact M
  ·have C:t.ask ak who id=({ t with iF:=mO t.iF ak who },true):=by simp only[Turns.ask];rw[if_neg d,if_neg hc]
   rw[C];have D:t.owned ak=false:=by cases h1:t.owned ak <;> simp_all
   have E:t.ws ak=[]:=by
    rw[D]at hc;cases E:t.ws ak with
    |nil=>rfl
    |cons a l=>rw[E]at hc;simp at hc
   rw[D]at A;rw[E]at Q;obtain⟨r,F,_,_,K⟩:=G.map h (i:=0) rfl;obtain⟨H',L,M,m3,m4⟩:=(K hb).1 ak (I who);refine⟨H',?_,?_,m3⟩
   ·have y:¬(0:Int)<(0:Nat):=J
    simp only[xq_,QZ,d,A,Q,zan,y,F,L]
   ·rw[CQ (λn=>I n)]at M;exact M
def Ry(G:Good b H g)(hb:H.base<=b){t:Turns}(h:g q=some (iT t))(ak who:Int):
  ∃H',cl 241 [.ref q 0 0,I ak,I who] H=some (I (t.release ak who).2,H')/\Good b H' (upd g q (iT (t.release ak who).1))/\Step b H H':=by
 refine kN rfl rfl (aqA _ _ _ _ _) ?_;have e:=yw G h ak;obtain⟨r,o,u,_,v⟩:=G.map h (i:=0) rfl;have k:=u (.int .i64 0) ak false;rw[vG]at k;cases d:jY t.iF ak with
 |none=>
  have j:t.release ak who=(t,6):=by simp only[Turns.release,d];rw[if_neg O]
  have m:t.owned ak=false:=by simp[Turns.owned,d]
  rw[j];rw[m]at e;refine⟨H,?_,by rw[fO h];exact G,Step.refl _ _⟩;simp only[xq_,Xj,e,zai]
 |some w=>
  have m:t.owned ak=true:=by simp[Turns.owned,d]
  rw[m]at e;simp only[d,zaj,zal,if_false]at k;by_cases hw:w=who
  ·have j:t.release ak who=({ t with iF:=Ai t.iF ak },0):=by simp only[Turns.release,d];rw[if_pos (by rw[hw])]
   rw[j];obtain⟨H',y,p,z,A⟩:=(v hb).2 ak;refine⟨H',?_,?_,z⟩
   ·simp only[xq_,Xj,e,zae,o,k,hw,y]
   ·rw[Wy (λn=>I n)]at p;exact p
  ·have j:t.release ak who=(t,6):=by simp only[Turns.release,d];rw[if_neg (by simpa using hw)]
   rw[j];refine⟨H,?_,by rw[fO h];exact G,Step.refl _ _⟩;simp only[xq_,Xj,e,zae,zai,o,k,hw]
def aqO(o:Option (Int × Int)):AV:=.tup [I (o.getD (0,0)).1,I (o.getD (0,0)).2,B o.isSome]
def acK(G:Good b H g)(hb:H.base<=b){t:Turns}(h:g q=some (iT t))(hw:(t.wait.map (·.1)).Nodup)(ak:Int)(hl:(t.ws ak).length<1000000):
  ∃H',cl 195 [.ref q 0 0,I ak] H=some (aqO (t.next ak).2,H')/\Good b H' (upd g q (iT (t.next ak).1))/\Step b H H':=by
 refine kN rfl rfl (apU _ _ _ _) ?_;have e1:=yw G h ak;have e2:=xG G h ak;cases ho:t.owned ak with
 |true=>
  have hp:t.next ak=(t,none):=by simp only[Turns.next,ho,if_true]
  rw[hp];rw[ho]at e1;refine⟨H,?_,by rw[fO h];exact G,Step.refl _ _⟩;simp only[xq_,Xe,e1,aqO,zaZ,zaK]
 |false=>
  rw[ho]at e1;cases hz:t.ws ak with
  |nil=>
   have hp:t.next ak=(t,none):=by simp only[Turns.next,ho,hz,zal,if_false]
   rw[hp];rw[hz]at e2;refine⟨H,?_,by rw[fO h];exact G,Step.refl _ _⟩;simp only[xq_,Xe,e1,e2,zan,Int.ofNat_zero,aqO,zaZ,zaK]
  |cons w l=>
   have hp:t.next ak=(⟨mO t.iF ak w.1,mO t.wait ak l⟩,some w):=by simp only[Turns.next,ho,hz,zal,if_false]
   rw[hp];rw[hz]at e2;obtain⟨r,x,f1,f2,f3,f4,f5,f6,f7⟩:=G.OI h (i:=1) rfl (by rw[show t.wait.map (λe=>(e.1,e.2.flatMap λw=>[I w.1,I w.2]))=Dk t from rfl,Dl];exact hw) ak;rw[show t.wait.map (λe=>(e.1,e.2.flatMap λw=>[I w.1,I w.2]))=Dk t from rfl,Jf,hz]at f3;have hs:=f3.is (n:=(w::l).length) (by decide) (dF (enc:=JJ) (λ_=>rfl) _);have s1:=hs.ix (k:=.i64) (i:=(0:Int)) (by omega) (by simp only[zak];omega);rw[show((0:Int).toNat)=0 from rfl]at s1;have s2:=lX (enc:=JJ) (λ_=>rfl) hs (i:=0) (a:=w) rfl;have G1:=G.newObj (ty:=322) (xs:=[I w.1,I w.2]) rfl;have hqn:q≠H.next:=G.ne h
   have h1:upd g H.next ([I w.1,I w.2].map .av) q=some (iT t):=by rw[bD hqn];exact h
   obtain⟨r',x',f1',f2',f3',f4',f5',f6',f7'⟩:=G1.OI h1 (i:=1) rfl (by rw[show t.wait.map (λe=>(e.1,e.2.flatMap λw=>[I w.1,I w.2]))=Dk t from rfl,Dl];exact hw) ak;rw[show t.wait.map (λe=>(e.1,e.2.flatMap λw=>[I w.1,I w.2]))=Dk t from rfl,Jf,hz]at f3';have hln:=f3'.is (n:=(w::l).length) (by decide) (dF (enc:=JJ) (λ_=>rfl) _);rcases f3' with⟨_,f3'⟩|⟨r0,gg,off,n',cap,ex,ty,all,rfl,k2,k3,k4,k5,k6,k7,k8⟩
   ·simp[JJ]at f3'
   have hn':n'=l.length+1:=by have:=hln.2.2.1;simp only[zak]at this;omega
   subst hn';have sl:=EX (r:=r0) (gg:=gg) (off:=off) (m:=2) (len:=l.length+1) (cap:=cap) (ex:=ex) (k1:=.i64) (lo:=1) (by decide) (by omega) k4;have t1:(1:Int).toNat=1:=rfl;rw[t1,zbk,Nat.add_sub_cancel]at sl;have hle:(l.length+1)*2<=cap*2:=zaF _ k4;have hfit:Fit (H.new (.blk 0 322 [I w.1,I w.2])) (H.new (.blk 0 322 [I w.1,I w.2])) (.sl r0 gg off 2 (l.length+1) cap ex) (.sl r0 gg (off+2) 2 l.length (cap-1) ex) 2 (l.flatMap JJ):=by
    refine .inr ⟨r0,gg,off+2,l.length,cap-1,ex,ty,all,rfl,.inl rfl,k3,by omega,k5,by rw[Nat.sub_mul];omega,k7,?_⟩;have:=congrArg (List.drop 2) k8;rw[zaE,List.drop_append_of_le_length (by simp[JJ]),show(JJ w).drop 2=[]from rfl,zaN,zcI,zbN]at this;rw[this]
    congr 1
    omega
   obtain⟨H2,m1,G2,m3,m4⟩:=f7' (H.new (.blk 0 322 [I w.1,I w.2])) _ _ (zac _) (by rw[jh];exact hb) (λ_ _ _=>rfl) hfit;have e3:(iT t).set 1 (.maps .i64 2 (mO (Dk t) ak (l.flatMap JJ)))=iT ⟨t.iF,mO t.wait ak l⟩:=by
    rw[Rx];rfl
   rw[show(List.map (λe=>(e.1,List.flatMap (λw=>[I w.1,I w.2]) e.2)) t.wait)=Dk t from rfl,e3]at G2;obtain⟨ro,o1,_,_,o2⟩:=G2.map aT (i:=0) rfl;have hb2:H2.base<=b:=by rw[m3.base,jh];exact hb
   obtain⟨H3,p1,G3,p3,p4⟩:=(o2 hb2).1 ak (I w.1);have j2:∀cs,upd (upd g H.next ([I w.1,I w.2].map .av)) q cs H.next=some ([I w.1,I w.2].map .av):=λcs=>by rw[bD hqn.symm,aT]
   have v1:=G2.load (j2 _) (i:=0) (x:=I w.1) rfl;rw[pz]at G3;have v2:=G3.load (j2 _) (i:=0) (x:=I w.1) rfl;have v3:=G3.load (j2 _) (i:=1) (x:=I w.2) rfl;refine⟨H3,?_,?_,((Step.new _ G.1).trans m3).trans p3⟩
   ·have hne:¬((l.length+1:Nat):Int)=0:=by omega
    have hbn:H.base<=H.next:=zav hb G.1
    simp only[JJ]at s2;simp only[Nat.reduceAdd,aN,xq_,hq_,Xe,e1,e2,hne,f1,f2,s1,s2,hbn,f1',f2',sl,m1,o1,v1,p1,v2,v3,aqO,zat,zaO]
   ·rw[CQ (λn=>I n)]at G3;refine G3.sub ?_;exact((uJ.refl g).more (G.isNone (zac _)) _).both q _
end
abbrev blw(n lo hi:Int):Bool:=decide (lo<=n) && decide (n<hi)
def afH(H:ah)(n lo hi:Int):cl 211 [I n,I lo,I hi] H=some (B (blw n lo hi),H):=by
 refine bn rfl rfl (ai4 _ _ _ _ _ ?_);by_cases h:lo<=n
 ·simp only[xq_,QW,h,blw,zaJ]
 ·simp only[xq_,QW,h,blw,zaL]
def aqP(a b c:Bool):a=false∨(a=true/\b=false)∨(a=true/\b=true/\c=false)∨(a=true/\b=true/\c=true):=by revert a b c;decide
def Pkt.ok_eq(p:Pkt):p.ok=(blw p.src 0 6 && blw p.dst 0 6 && blw p.id 0 4096 && (blw p.aU 1 10 && blw p.ak 0 8 && blw p.ptr (-1) 6) && blw p.state 0 3 && !decide ((4:Int)<p.data.length)):=by
 have:decide (p.data.length<=4)=!decide ((4:Int)<p.data.length):=by
  by_cases h:p.data.length<=4
  ·have:¬(4:Int)<p.data.length:=V
   simp[h,this]
  ·have:(4:Int)<p.data.length:=V
   simp[h,this]
 unfold Pkt.ok;rw[this];simp only[blw,Bool.and_assoc]
def Bo(H:ah)(p:Pkt):cl 174 [.agg p.av] H=some (I (if p.ok=true then 0 else 1),H):=by
 refine bg rfl rfl (aiF _ _ _) ?_ fC;have b:=λH n lo hi=>afH H n lo hi;have d:=λH=>(fH H p.data).lnS;rw[p.ok_eq];generalize e:blw p.src 0 6=b1;generalize g:blw p.dst 0 6=b2;generalize h:blw p.id 0 4096=b3;generalize i:blw p.aU 1 10=b4;generalize j:blw p.ak 0 8=b5;generalize k:blw p.ptr (-1) 6=b6;generalize m:blw p.state 0 3=b7;by_cases o:(4:Int)<p.data.length
 all_goals rcases aqP b1 b2 b3 with rfl|⟨rfl,rfl⟩|⟨rfl,rfl,rfl⟩|⟨rfl,rfl,rfl⟩
 all_goals rcases aqP b4 b5 b6 with rfl|⟨rfl,rfl⟩|⟨rfl,rfl,rfl⟩|⟨rfl,rfl,rfl⟩
 all_goals cases b7
 all_goals simp only[Nat.reduceLT,Int.reduceNeg,xq_,hq_,abG,aC,Pkt.av,b,d,e,g,h,i,j,k,m,o,zae,zai,zaL,zb3]
def LH(H:ah)(k:Int):cl 92 [I k] H=some (B (rG k),H):=by
 refine bg rfl rfl (aua _ _ _) ?_ fC;by_cases h:1<=k
 ·simp only[xq_,akL,h,rG,zaJ]
 ·simp only[xq_,akL,h,rG,zaL]
def Rz(H:ah)(k:Int):cl 229 [I k] H=some (I (DW k),H):=by
 refine bg rfl rfl (aqr _ _ _) ?_ fC;by_cases b:k=1
 ·simp only[Int.reduceEq,xq_,Eh,b,DW]
 ·by_cases d:k=2
  ·simp only[Int.reduceEq,xq_,Eh,pV,d,DW,true_or]
  ·by_cases e:k=4
   ·simp only[Int.reduceEq,xq_,Eh,pV,e,DW,true_or,or_true]
   ·by_cases g:k=5
    ·simp only[Int.reduceEq,xq_,Eh,pV,g,DW,or_true]
    ·by_cases h:k=3
     ·simp only[Int.reduceEq,xq_,Eh,pV,Bg,h,DW,true_or,false_or]
     ·by_cases i:k=6
      ·simp only[Int.reduceEq,xq_,Eh,pV,Bg,i,DW,or_true,false_or]
      ·simp only[xq_,Eh,pV,Bg,b,d,h,e,g,i,DW,false_or]
def oH(z:Int):((by8 z).toNat:Int)=z % 256:=by
 unfold by8;have h:(BitVec.ofInt 8 z).toNat=(z % ((2 ^ 8:Nat):Int)).toNat:=BitVec.toNat_ofInt z;have b:(0:Int)<=z % 256:=zbS _ J;rw[h,show((2 ^ 8:Nat):Int)=256 from rfl,zbH b]
def XB(z:Int):(AV.s (.int .u8 (IntKind.wrap .u8 z)))=Y (by8 z):=by
 show _=AV.s (.int .u8 ((by8 z).toNat:Int));rw[oH,ahD rfl];rfl
def aun(H:ah)(f:Bool):cl0 175 [B f] H=some (Y (by8 (if f then 1 else 0)),H):=by
 refine iR (apy _ _ _ ?_);cases f
 ·simp only[xq_,abH];rfl
 ·simp only[xq_,abH];rfl
def avW(H0 H:ah)(x:AV)(l:List AV):Prop:=
 (x=zN/\l=[])∨(∃r g b,x=.sl r g 0 1 l.length l.length false/\H0.next<=r/\r<H.next/\H.get r=.blk g b l)∨(∃r b,x=.sl r 0 0 1 l.length l.length true/\H0.next<=r/\r<H.next/\H.get r=.blk 0 b l)
structure Acc(H0 H:ah)(x:AV)(l:List AV):Prop where
 gro:Gro H0 H
 base:H.base<=H0.next
 x:avW H0 H x l
def Acc.is {H0 H:ah}{x:AV}{l:List AV}(a:Acc H0 H x l):aH H x 1 l.length l:=by
 refine⟨V,?_⟩;rcases a.x with⟨rfl,rfl⟩|⟨r,g,b,rfl,e,d,h⟩|⟨r,b,rfl,i,e,d⟩
 ·exact⟨rfl,rfl,rfl⟩
 ·exact⟨rfl,rfl,⟨d,zac _⟩,b,l,h,V,O⟩
 ·exact⟨rfl,rfl,⟨e,zac _⟩,b,l,d,V,O⟩
def Acc.one {H0 H:ah}{x:AV}{l:List AV}(a:Acc H0 H x l):One x:=by
 rcases a.x with⟨rfl,rfl⟩|⟨r,g,b,rfl,d,e,i⟩|⟨r,b,rfl,h,d,e⟩
 ·exact qx
 ·exact wU
 ·exact wU
def Acc.auo {H0 H H':ah}{x:AV}{l:List AV}(a:Acc H0 H x l)(g:Gro H H'):Acc H0 H' x l:=by
 refine⟨a.gro.trans g,by rw[g.base];exact a.base,?_⟩;rcases a.x with h|⟨r,g',ty,h0,h1,h2,h3⟩|⟨r,ty,h0,h0',h1,h2⟩
 ·exact .inl h
 ·exact .inr (.inl ⟨r,g',ty,h0,h1,zax h2 g.next,by rw[g.same r h2];exact h3⟩)
 ·exact .inr (.inr ⟨r,ty,h0,h0',zax h1 g.next,by rw[g.same r h1];exact h2⟩)
def Gro.put {H0 H:ah}{r g ty:Nat}{xs:List AV}(G:Gro H0 H)(e:H0.next<=r):Gro H0 (H.put r (.blk g ty xs)):=
 ⟨G.next,G.base,λx b=>by
  have:(H.put r (.blk g ty xs)).get x=H.get x:=by simp only[ah.put];rw[if_neg V]
  rw[this];exact G.same x b,λh x k d=>by
  simp only[ah.put];split
  ·simp
  ·exact G.Q8 h x k d⟩
def Acc.app {H0 H:ah}{x:AV}{l:List AV}(a:Acc H0 H x l){e by_ n:Nat}{y:AV}{new:List AV}(hy:aH H y 1 n new)(hc:new.all AV.aS=true)(hn:n≠0)(hs:l.length+n<1000)(hby:by_<=16):
  ∃x' H',app e 1 by_ x y H=some (x',H')/\Acc H0 H' x' (l++new):=by
 have hnew:new.length=n:=by have:=hy.1;omega
 obtain⟨c1,c2⟩:=hy.wS;have hb1:n*by_<=most:=by
  have:n*by_<=1000*16:=zdG (by omega) hby;unfold most;omega
 have hb2:(l.length+n)*by_<=most:=by
  have:(l.length+n)*by_<=1000*16:=zdG (by omega) hby;unfold most;omega
 have hm1:n<=most:=by unfold most;omega
 have hm2:l.length+n<=most:=by unfold most;omega
 rcases a.x with⟨rfl,rfl⟩|⟨r,g,ty,rfl,h1,h2,h3⟩|⟨r,ty,rfl,h0',h1,h2⟩
 ·refine⟨_,_,Ui hy hc hn hm1 hb1,a.gro.trans (Gro.new _ _ _ _),by rw[jh];exact a.base,.inr (.inl ⟨H.next,0,e+gV,?_,a.gro.next,by rw[eF];omega,?_⟩)⟩
  ·simp only[zaN,hnew]
  ·rw[aP rfl,zaN]
 ·refine⟨.sl r (g+1) 0 1 (l.length+n) (l.length+n) false,H.put r (.blk (g+1) (grT e ty 0) (l++new)),?_,a.gro.put h1,a.base,.inr (.inl ⟨r,g+1,grT e ty 0,?_,h1,h2,?_⟩)⟩
  ·simp only[Proofs.YtgplhpgkompkmaaGreat.app,c1,c2];unfold dW;rw[if_pos ⟨hy.1,hc⟩];simp only[h3];rw[if_pos ⟨trivial,trivial,by omega⟩,if_neg hn,if_neg (by omega),if_pos ⟨hm2,hb2⟩];simp only[zal,if_false,zaS];rw[if_pos (zav a.base h1)];simp
  ·simp only[zar,hnew]
  ·simp only[ah.put,if_true]
 ·refine⟨.sl H.next 0 0 1 (l.length+n) (l.length+n) false,H.new (.blk 0 (e+gV) (l++new)),?_,a.gro.trans (Gro.new _ _ _ _),by rw[jh];exact a.base,.inr (.inl ⟨H.next,0,e+gV,?_,a.gro.next,by rw[eF];omega,aP rfl⟩)⟩
  ·simp only[Proofs.YtgplhpgkompkmaaGreat.app,c1,c2];unfold dW;rw[if_pos ⟨hy.1,hc⟩];simp only[h2];rw[if_pos ⟨trivial,trivial,by omega⟩,if_neg hn,if_neg (by omega),if_pos ⟨hm2,hb2⟩];simp
  ·simp only[zar,hnew]
def acL(n:Int):∀k,k<8->(qR n).drop (8-(k+1))=by8 (n.fdiv (2 ^ (8*k)))::(qR n).drop (8-k)
 |0,_|1,_|2,_|3,_|4,_|5,_|6,_|7,_=>rfl
 |k+8,h=>absurd h V
def aup(H:ah)(hb:H.base<=H.next)(n:Int):∃y H',cl0 176 [I n] H=some (y,H')/\Acc H H' y ((qR n).map Y):=by
 have key:∀k:Nat,k<=8->∀(x:AV) (K:ah) (l:List By),Acc H K x (l.map Y)->l.length+k=8->∃y H',FC cl0 [I n,x,I (8*(k:Int)-8)] K=some (y,H')/\Acc H H' y ((l++(qR n).drop (8-k)).map Y):=by
  intro k
  induction k with
  |zero=>
   intro hk x K l a i;have b:¬((0:Int)<=8*((0:Nat):Int)-8):=V
   refine⟨x,K,?_,by rw[show(qR n).drop (8-0)=[]from rfl,zbd];exact a⟩;rw[WZ];simp only[xq_,b]
  |succ k j=>
   intro hk x K l a i;have o:8*((k+1:Nat):Int)-8=((8*k:Nat):Int):=V
   have b:(0:Int)<=((8*k:Nat):Int):=V
   have p:bi .shr 3 (I n) (I ((8*k:Nat):Int))=some (I (n.fdiv (2 ^ (8*k)))):=by
    have:=Uw (P:=Tryz.prog) (t:=3) (k:=.i64) (k':=.i64) (a:=n) b;rw[zam,show min (8*k) (IntKind.bits .i64)=8*k from zbm (show 8*k<=64 by omega)]at this;exact this
   have h:cv 3 5 (I (n.fdiv (2 ^ (8*k)))) K=some (Y (by8 (n.fdiv (2 ^ (8*k)))),K):=by rw[<-XB];exact ahe
   obtain⟨c,hc⟩:∃c,by8 (n.fdiv (2 ^ (8*k)))=c:=⟨_,rfl⟩
   rw[hc]at h;have q:bs 220 1 [(0,Y c)] K=some (.sl K.next 0 0 1 1 1 true,K.new (.blk 0 5 [Y c])):=(Wq J).trans (jP rfl rfl rfl);have u:=a.auo (Gro.new K 0 5 [Y c]);obtain⟨v,K',z,A⟩:=u.app (e:=5) (by_:=1) (n:=1) (jX (e:=5) (H:=K) (ex:=true) (n:=1) (m:=1) (l:=[Y c]) rfl) rfl J (by simp;omega) J;have C:((8*k:Nat):Int)-8=8*(k:Int)-8:=V
   have w:=wrap_i64 (a:=8*(k:Int)-8) V V;obtain⟨y,H',d,g⟩:=j V v K' (l++[c]) (by simpa using A) (by simp;omega);refine⟨y,H',?_,?_⟩
   ·rw[WZ,o];simp only[xq_,b,p,h,q,z,lH,C,w,d]
   ·rw[acL n k V,hc]
    simpa using g
 obtain⟨y,H',d,g⟩:=key 8 (zac _) zN H [] ⟨Gro.refl H,hb,.inl ⟨rfl,rfl⟩⟩ rfl;refine⟨y,H',iR (apA _ _ _ ?_),by simpa using g⟩;have:(8*((8:Nat):Int)-8)=56:=rfl;rw[this]at d;simp only[aiH,d]
end
end Go.Proofs.YtgplhpgkompkmaaGreat
