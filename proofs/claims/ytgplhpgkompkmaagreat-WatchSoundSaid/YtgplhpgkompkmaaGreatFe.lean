/-
  Own work, a part.
-/
import Derived.Test.YtgplhpgkompkmaaGreatFd
set_option linter.all false
namespace Go.Proofs.YtgplhpgkompkmaaGreat
open Option renaming some->ZC,none->Z1
open Bool renaming true->Z0,false->ZV
open Decidable renaming decide->u,decide->YM
noncomputable section
def yM(o:M Nat):Int:=match o with
 |some i=>(i:Int)
 |none=>-1
def mO {α:Type}{p:α->Bool}:∀(l:List α) (i:Nat),(∀j a,j<i->l[j]?=some a->p a=false)->l.findIdx? p=((l.drop i).findIdx? p).map (· +i)
 |l,0,_=>by cases h:l.findIdx? p <;> simp[h]
 |[],i+1,_=>by simp
 |a::l,i+1,h=>by
  have d:=h 0 a V rfl;rw[List.findIdx?_cons,d,List.drop_succ_cons,mO l i λj b e hb=>h (j+1) b V hb];simp only[Bool.false_eq_true,if_false,Option.map_map]
  congr 1
def UW(H:ah){α:Type}{enc:α->Q AV}(v:∀a,(enc a).length=3){x f:AV}{l:Q α}(m:aH H x 3 l.length (l.flatMap enc))(F:l.length<1000000000)(p:α->Bool)
  (w:∀a∈l,qC Tryz.prog cl f [.agg (enc a)] H=ZC (B (p a),H)):cl 158 [x,f] H=ZC (I (yM (l.findIdx? p)),H):=by
 have y:=m.lnS;have z:∀i a,l[i]?=ZC a->lda 3 (eH x i) H=ZC (.agg (enc a),H):=λi a hi=>jT v m hi;refine bg W W (apr _ _ _ _ ?_);have key:∀k i,i+k=l.length->(∀j a,j<i->l[j]?=ZC a->p a=ZV)->FB cl [x,f,I l.length,I i] H=ZC (I (yM (l.findIdx? p)),H):=by
  intro k
  induction k with
  |zero=>
   intro i hi g;have e:¬(i:Int)<l.length:=V
   have n:l.findIdx? p=none:=by rw[mO l i g,List.drop_of_length_le V];rfl
   rw[WX];simp only[Int.reduceNeg,xq_,e,n,yM]
  |succ k A=>
   intro i hi g;have e:(i:Int)<l.length:=V
   have o:=m.ix (k:=.i64) (i:=(i:Int)) V e;have⟨a,ha⟩:∃a,l[i]?=ZC a:=⟨_,List.getElem?_eq_getElem V⟩
   have u:=z i a ha;have h:=w a (List.mem_of_getElem? ha);rw[Int.toNat_natCast]at o;rw[WX];cases d:p a with
   |true=>
    have n:l.findIdx? p=ZC i:=by
     rw[mO l i g,List.drop_eq_getElem_cons V,List.findIdx?_cons];rw[List.getElem?_eq_getElem V]at ha;simp only[Option.some.injEq]at ha;rw[ha,d];simp
    rw[d]at h;simp only[Int.reduceNeg,xq_,e,n,o,u,h,yM]
   |false=>
    rw[d]at h;have C:(i:Int)+1=((i+1:Nat):Int):=V
    have D:=wrap_i64 (a:=((i+1:Nat):Int)) V V;have:=A (i+1) V λj b E hb=>by
     by_cases q:j=i
     ·subst q;rw[ha]at hb;cases hb;exact d
     ·exact g j b V hb
    simp only[Int.reduceNeg,xq_,e,o,u,h,bM,C,D,this]
 have:=key l.length 0 V (λj a E=>V);simp only[xq_,aiB,y];exact this
def Eo(H:ah){α:Type}{enc:α->Q AV}(v:∀a,(enc a).length=6){x f:AV}{l:Q α}(m:aH H x 6 l.length (l.flatMap enc))(F:l.length<1000000000)(p:α->Bool)
  (w:∀a∈l,qC Tryz.prog cl f [.agg (enc a)] H=ZC (B (p a),H)):cl 125 [x,f] H=ZC (I (yM (l.findIdx? p)),H):=by
 have y:=m.lnS;have z:∀i a,l[i]?=ZC a->lda 6 (eH x i) H=ZC (.agg (enc a),H):=λi a hi=>jT v m hi;refine bg W W (aoK _ _ _ _ ?_);have key:∀k i,i+k=l.length->(∀j a,j<i->l[j]?=ZC a->p a=ZV)->Fh cl [x,f,I l.length,I i] H=ZC (I (yM (l.findIdx? p)),H):=by
  intro k
  induction k with
  |zero=>
   intro i hi g;have e:¬(i:Int)<l.length:=V
   have n:l.findIdx? p=none:=by rw[mO l i g,List.drop_of_length_le V];rfl
   rw[WI];simp only[Int.reduceNeg,xq_,e,n,yM]
  |succ k A=>
   intro i hi g;have e:(i:Int)<l.length:=V
   have o:=m.ix (k:=.i64) (i:=(i:Int)) V e;have⟨a,ha⟩:∃a,l[i]?=ZC a:=⟨_,List.getElem?_eq_getElem V⟩
   have u:=z i a ha;have h:=w a (List.mem_of_getElem? ha);rw[Int.toNat_natCast]at o;rw[WI];cases d:p a with
   |true=>
    have n:l.findIdx? p=ZC i:=by
     rw[mO l i g,List.drop_eq_getElem_cons V,List.findIdx?_cons];rw[List.getElem?_eq_getElem V]at ha;simp only[Option.some.injEq]at ha;rw[ha,d];simp
    rw[d]at h;simp only[Int.reduceNeg,xq_,e,n,o,u,h,yM]
   |false=>
    rw[d]at h;have C:(i:Int)+1=((i+1:Nat):Int):=V
    have D:=wrap_i64 (a:=((i+1:Nat):Int)) V V;have:=A (i+1) V λj b E hb=>by
     by_cases q:j=i
     ·subst q;rw[ha]at hb;cases hb;exact d
     ·exact g j b V hb
    simp only[Int.reduceNeg,xq_,e,o,u,h,bM,C,D,this]
 have:=key l.length 0 V (λj a E=>V);simp only[xq_,ah4,y];exact this
def afr(H:ah)(c:Cfg)(h:c.ok=Z0)(o:Opn):cl 109 [.agg c.av,.agg o.av] H=ZC (B (c.right o),H):=by
 refine bD W W (aox _ _ _ _) ?_ fC;have e:=λH=>I5 H c h o.addr;have j:c.right o=(u (1<=o.aW) && u (o.aW<=4) && !decide (c.bZ o.addr=-1) && (u (o.value=0) || u (o.aW=2) || u (o.aW=3))):=by simp[Cfg.right]
 rw[j];by_cases a:1<=o.aW;rotate_left
 ·simp only[Nat.reduceLT,Int.reduceNeg,xq_,hq_,Eh,aC,Opn.av,e,a,Bool.false_and]
 by_cases b:o.aW<=4;rotate_left
 ·simp only[Nat.reduceLT,Int.reduceNeg,xq_,hq_,Eh,aC,Opn.av,e,a,b,Bool.true_and,Bool.false_and]
 by_cases d:c.bZ o.addr=-1
 ·simp only[Nat.reduceLT,Int.reduceNeg,xq_,hq_,Eh,aC,Opn.av,e,a,b,d,Bool.true_and,Bool.false_and,Bool.not_true]
 by_cases f:o.value=0
 ·simp only[Nat.reduceLT,Int.reduceNeg,xq_,hq_,Eh,aC,Opn.av,e,a,b,d,f,Bool.not_false,Bool.true_or]
 by_cases g:o.aW=2
 ·simp only[Nat.reduceLT,Int.reduceLE,Int.reduceEq,Int.reduceNeg,xq_,hq_,Eh,aC,Opn.av,e,d,f,g,Bool.not_false,Bool.true_or,Bool.or_true]
 by_cases i:o.aW=3
 ·simp only[Nat.reduceLT,Int.reduceLE,Int.reduceEq,Int.reduceNeg,xq_,hq_,Eh,aC,Opn.av,e,d,f,i,Bool.not_false,Bool.or_true]
 ·simp only[Nat.reduceLT,Int.reduceNeg,xq_,hq_,Eh,aC,Opn.av,e,a,b,d,f,g,i,Bool.not_false,Bool.or_false,Bool.and_false]
def UY(H:ah)(c:Cfg)(h:c.ok=Z0)(o:Opn){r ty:Nat}(b:r<H.next)(d:H.get r=.blk 0 ty c.av):cl 108 [.agg o.av,.ref r 0 0] H=ZC (B (!c.right o),H):=by
 refine bD W W (aow _ _ _ _) ?_ fC;have e:=λH=>afr H c h o;have g:lda 8 (.ref r 0 0) (H.guard.new (.blk 0 61 o.av))=ZC (.agg (c.av.take 8),_):=iE (off:=0) (n:=8) (by rw[aZ (by rw[wU];exact b),ad9];exact d) (Nat.le_refl 8);simp only[Nat.reduceLT,xq_,hq_,ahS,aC (mg o),g,e]
def I7 {o:M Nat}:u (0<=yM o)=o.isSome:=by
 cases o with
 |none=>rfl
 |some i=>simp[yM]
def acf(H:ah)(c:Cfg)(h:c.ok=Z0){v:AV}{l:Q Opn}(hv:aH H v 3 l.length (l.flatMap Opn.av))(hl:l.length<1000000000){r ty:Nat}(hr:r<H.next)(hg:H.get r=.blk 0 ty c.av):cl 106 [v,.ref r 0 0] H=ZC (B (!(u (l.length<=24) && l.all c.right)),H):=by
 refine bD W W (aou _ _ _ _) ?_ fC;have e1:=hv.guard.lnS;have e2:=UW H.guard (enc:=Opn.av) eG (f:=.fn (.func 108) [] [.ref r 0 0]) hv.guard hl (λo=>!c.right o) (λo _=>by
  rw[ug (by kernel_rfl)];exact UY H.guard c h o hr hg)
 have e3:cl 107 [v,.fn (.func 108) [] [.ref r 0 0]] H.guard=ZC (B (l.findIdx? λo=>!c.right o).isSome,H.guard):=by
  refine bg W W (aov _ _ _ _ ?_);simp only[xq_,ahR,e2,I7]
 have e4:(l.findIdx? λo=>!c.right o).isSome=!l.all c.right:=by
  rw[List.findIdx?_isSome,List.not_all_eq_any_not]
 by_cases h0:l.length<=24
 ·have h1:¬(24:Int)<l.length:=by omega
  simp only[xq_,abo,e1,e3,e4,h0,h1,Bool.true_and]
 ·have h1:(24:Int)<l.length:=by omega
  simp only[xq_,abo,e1,h0,h1,Bool.false_and,Bool.not_false]
def OG(H:ah)(x:AV)(ps:Q (Q Opn)):Prop:=
 ∃cells:Q AV,aH H x 1 ps.length cells/\∀(i:Nat) v l,cells[i]?=ZC v->ps[i]?=ZC l->aH H v 3 l.length (l.flatMap Opn.av)/\(l=[]->v=zN)
def OG.iD {H H':ah}{x:AV}{ps:Q (Q Opn)}(h:OG H x ps)(e:H.next<=H'.next)(g:∀r,r<H.next->H'.get r=H.get r):OG H' x ps:=by
 have⟨cells,k,j⟩:=h;exact⟨cells,k.iD e λr _ d=>g r d,λi v l a b=>⟨(j i v l a b).1.iD e λr _ d=>g r d,(j i v l a b).2⟩⟩
def Bz {n:Nat}{p:Nat->Bool}:∀i,i<=n->(∀j,j<i->p j=false)->(List.range n).findIdx? p=((List.range' i (n-i)).findIdx? p).map (· +i):=by
 intro i hi b;rw[mO (List.range n) i λj a d ha=>by
  have:a=j:=by
   rw[List.getElem?_range V]at ha
   simpa using ha.symm
  rw[this];exact b j d]
 congr 2
 rw[List.range_eq_range',List.drop_range'];simp
def UZ(H:ah){x f:AV}{n:Nat}{cells:Q AV}(e:aH H x 1 n cells)(F:n<1000000000)(p:Nat->Bool)
  (w:∀i v,cells[i]?=ZC v->qC Tryz.prog cl f [v] H=ZC (B (p i),H)):cl 157 [x,f] H=ZC (I (yM ((List.range n).findIdx? p)),H):=by
 have y:=e.lnS;have z:cells.length=n:=by have:=e.1;omega
 refine bg W W (apq _ _ _ _ ?_);have key:∀k i,i+k=n->(∀j,j<i->p j=ZV)->Fz cl [x,f,I n,I i] H=ZC (I (yM ((List.range n).findIdx? p)),H):=by
  intro k
  induction k with
  |zero=>
   intro i hi g;have d:¬(i:Int)<n:=V
   have m:(List.range n).findIdx? p=none:=by rw[Bz i V g,show n-i=0 by omega];rfl
   rw[WW];simp only[Int.reduceNeg,xq_,d,m,yM]
  |succ k A=>
   intro i hi g;have d:(i:Int)<n:=V
   have o:=e.ix (k:=.i64) (i:=(i:Int)) V d;have⟨v,hv⟩:∃v,cells[i]?=ZC v:=⟨_,List.getElem?_eq_getElem V⟩
   have q:=e.ld (i:=i) V;rw[hv]at q;have h:=w i v hv;rw[Int.toNat_natCast]at o;rw[WW];cases b:p i with
   |true=>
    have m:(List.range n).findIdx? p=ZC i:=by
     rw[Bz i V g,show n-i=k+1 by omega,List.range'_succ,List.findIdx?_cons,b];simp
    rw[b]at h;simp only[Int.reduceNeg,xq_,d,m,o,q,h,yM]
   |false=>
    rw[b]at h;have C:(i:Int)+1=((i+1:Nat):Int):=V
    have D:=wrap_i64 (a:=((i+1:Nat):Int)) V V;have:=A (i+1) V λj E=>by
     by_cases u:j=i
     ·rw[u];exact b
     ·exact g j V
    simp only[Int.reduceNeg,xq_,d,o,q,h,bM,C,D,this]
 have:=key n 0 V (λj E=>V);simp only[xq_,aiz,y];exact this
def acg(H:ah)(c:Cfg)(h:c.ok=Z0){x:AV}{ps:Q (Q Opn)}(hx:OG H x ps)(hn:ps.length<1000000000)(hl:∀l∈ps,l.length<1000000000):cl 60 [.agg c.av,x] H=ZC (I (if c.nR ps then 0 else 1),H):=by
 refine bD W W (atj _ _ _ _) ?_ fC;have hx1:=hx.iD (H':=H.guard.new (.blk 0 31 c.av)) (by rw[eu,wU];omega) λr hr=>by rw[aZ (by rw[wU];exact hr),ad9]
 have⟨cells,x1,x2⟩:=hx1;have hcl:cells.length=ps.length:=by have:=x1.1;omega
 let bad:Q Opn->Bool:=λl=>!(u (l.length<=24) && l.all c.right)
 have e2:=UZ (H.guard.new (.blk 0 31 c.av)) (f:=.fn (.func 106) [] [.ref H.next 0 0]) x1 hn (λi=>bad (ps.getD i [])) (λi v hv=>by
  have hi:i<ps.length:=by rw[<-hcl];exact(List.getElem?_eq_some_iff.1 hv).1
  have hpi:ps[i]?=ZC (ps.getD i []):=by simp[List.getD,List.getElem?_eq_getElem hi]
  rw[ug (by kernel_rfl)];exact acf _ c h (x2 i v _ hv hpi).1 (hl _ (List.mem_of_getElem? hpi)) (by rw[eu,wU];omega) (aK (by rw[wU])))
 have e4:((List.range ps.length).findIdx? λi=>bad (ps.getD i [])).isSome=!(ps.all λl=>u (l.length<=24) && l.all c.right):=by
  rw[List.findIdx?_isSome,List.not_all_eq_any_not,Bool.eq_iff_iff,List.any_eq_true,List.any_eq_true];constructor
  ·rintro⟨i,hi,hb⟩;have hi:i<ps.length:=List.mem_range.1 hi;exact⟨ps.getD i [],List.mem_of_getElem? (i:=i) (by simp[List.getD,List.getElem?_eq_getElem hi]),hb⟩
  ·rintro⟨l,hm,hb⟩;have⟨i,hi,he⟩:=List.getElem_of_mem hm;have hg:ps.getD i []=l:=by simp[List.getD,List.getElem?_eq_getElem hi,he]
   exact⟨i,List.mem_range.2 hi,by rw[hg];exact hb⟩
 have e3:cl 105 [x,.fn (.func 106) [] [.ref H.next 0 0]] (H.guard.new (.blk 0 31 c.av))=ZC (B (!(ps.all λl=>u (l.length<=24) && l.all c.right)),H.guard.new (.blk 0 31 c.av)):=by
  refine bg W W (aot _ _ _ _ ?_);simp only[xq_,ahQ,e2,I7,e4]
 have l0:c.av[0]?=ZC (I c.aF):=rfl;have e5:=x1.lnS;cases hb:ps.all λl=>u (l.length<=24) && l.all c.right with
 |false=>simp only[Nat.reduceLT,xq_,hq_,afb,aC (eF c),e3,hb,Bool.not_false,Cfg.nR,Bool.false_and]
 |true=>
  by_cases hc:(ps.length:Int)=c.aF
  ·simp only[Nat.reduceLT,xq_,hq_,afb,aC (eF c),e3,e5,hb,l0,Bool.not_true,Cfg.nR,hc]
  ·simp only[Nat.reduceLT,xq_,hq_,afb,aC (eF c),e3,e5,hb,l0,Bool.not_true,Bool.not_false,Cfg.nR,Bool.true_and,hc]
def OH {c:Cfg}(h:c.ok=Z0){ak:Int}(h0:0<=ak)(b:ak<c.aT):c.first ak≠[]:=by
 have B:=qp h;unfold Cfg.first
 rw[F V];intro e;have:=zaj List.length e;simp only[List.length_map,List.length_range,List.length_nil]at this;have:=B.aP;omega
def U0 {c:Cfg}(h:c.ok=Z0){ak:Int}(h0:0<=ak)(k:ak<c.aT){from_:Nat}(m:(from_:Int)=min (ak*c.aP) c.init.length):
  aI (List.replicate c.aP.toNat zI) 0 (((c.init.map I).drop from_).take (min (c.init.length-from_) c.aP.toNat))=(c.first ak).map I:=by
 have B:=qp h;have hw:=B.aP;have j:0<=ak*c.aP:=Int.mul_nonneg h0 V;unfold Cfg.first
 rw[F V]
 apply List.ext_getElem?
 intro i;have b:(((c.init.map I).drop from_).take (min (c.init.length-from_) c.aP.toNat)).length=min (c.init.length-from_) c.aP.toNat:=by
  rw[List.length_take,List.length_drop,List.length_map];omega
 rw[nC (by rw[b,List.length_replicate];omega),b];rcases Nat.lt_or_ge i c.aP.toNat with hi|hi
 ·simp only[List.getElem?_map,List.getElem?_range hi,Option.map_some];by_cases hc:i<c.init.length-from_
  ·rw[y V,Nat.sub_zero,List.getElem?_take,y V,List.getElem?_drop,List.getElem?_map];have e:from_=(ak*c.aP).toNat:=V
   rw[e];have d:(ak*c.aP).toNat+i<c.init.length:=V
   simp[List.getD,List.getElem?_eq_getElem d]
  ·rw[F V,List.getElem?_replicate,y hi];have g:c.init.length<=(ak*c.aP).toNat+i:=V
   simp[List.getD,List.getElem?_eq_none g]
 ·rw[F V,List.getElem?_eq_none (by simp;omega),List.getElem?_eq_none (by simp;omega)]
def Xr(H:ah)(c:Cfg)(h:c.ok=Z0)(ak:Int)(h0:0<=ak)(h1:ak<c.aT):cl 204 [.agg c.av,I ak] H=ZC (dat (c.first ak),H):=by
 have B:=qp h;have hw:=B.aP;have hlw:0<=ak*c.aP:=Int.mul_nonneg h0 (by omega);have avF:ak*c.aP<=8*4:=Int.mul_le_mul (by have:=B.aT;omega) hw.2 (by omega) (by omega);have w:=wrap_i64 (a:=ak*c.aP) (by omega) (by omega);have l1:c.av[1]?=ZC (I c.aT):=rfl;have l2:c.av[2]?=ZC (I c.aP):=rfl;have l7:c.av[7]?=ZC (dat c.init):=rfl;let H1:=(H.guard.new (.blk 0 31 c.av)).new (.blk 0 3 (dM [zI] c.aP.toNat));have e1:=Wx (e:=3) (m:=1) (by_:=8) (z:=[zI]) (n:=c.aP) (H:=H.guard.new (.blk 0 31 c.av)) W W (by omega) (by omega) (by decide);have e2:=λH=>(gJ H c.init).lnS;have hm:0<=min (ak*c.aP) (c.init.length:Int):=by omega
 have⟨y,e3,e4⟩:=(gJ H1 c.init).from_ (k:=.i64) (lo:=min (ak*c.aP) (c.init.length:Int)) hm (by omega);have⟨H2,e5,e6,e7,e8,e9⟩:=ant (H:=H1) (r:=H.next+1) (g:=0) (off:=0) (m:=1) (len:=c.aP.toNat) (cap:=c.aP.toNat) (ex:=Z0) (ty:=3) (aK (by rw[eu,wU])) (by show H.next<=_;omega) (by rw[kG];simp) e4 (Am (yh _) _);refine gY W W (ap3 _ _ _ _ (r:=(.sl (H.next+1) 0 0 1 c.aP.toNat c.aP.toNat Z0,H2)) ?_) ?_
 ·have n0:¬ak<0:=by omega
  have n1:¬c.aT<=ak:=by omega
  simp only[eu,wU]at e1;simp only[Nat.reduceLT,xq_,hq_,ai6,aC (eF c),n0,n1,l1,l2,l7,e1,e2,iP,w,aam,e3,e5,H1]
 ·rw[qN (OH h h0 h1)];have hf:=U0 h h0 h1 (from_:=(min (ak*c.aP) (c.init.length:Int)).toNat) (by omega);rw[kG,Nat.mul_one,Nat.mul_one,hf]at e6;have hlen:(c.first ak).length=c.aP.toNat:=by
   unfold Cfg.first
   rw[F (by omega)];simp
  rw[hlen];refine kS (by omega) (cells:=(c.first ak).map I) ?_ (iM _ λx hx=>rZ _ x hx _ _);simp only[cZ,e6];rw[YY ⟨zac,by simp[hlen]⟩,List.drop_zero,List.take_of_length_le (by simp[hlen])]
def afs(c:Cfg)(dS:Rows)(n:Int)(r:Row):(EH c dS).set 8 (.map .i64 (MJ (Qy (λr=>.agg r.av) dS) n (.agg r.av)))=EH c (lK dS n r):=by
 have:=CZ (f:=λr:Row=>AV.agg r.av) dS n r;rw[this];rfl
def ach(H:ah)(hb:H.base<=H.next)(c:Cfg)(h:c.ok=Z0)(me:Int):∃H' q,cl 160 [.agg c.av,I me] H=ZC (.ref q 0 0,H')/\Made H H' (upd lH q (EH c (c.jK me c.aT.toNat))):=by
 have B:=qp h;let Hb:=H.new (.blk 0 31 c.av);let Hm:=Hb.new (.map .i64 []);let H0:=Hm.new (.blk 0 277 (c.av++[.mp (H.next+1)]));have M0:Made Hb H0 (upd lH (H.next+2) (EH c [])):=by
  refine Rf (H':=Hm) (by simp only[Hb,eu];omega) (by simp only[Hm,Hb,eu]) W (λr hr=>aZ hr) (by rw[List.all_append,eF];rfl) (by simp[EH]) (λr=>if r=H.next+1 then ZC 8 else Z1) λi cc x hc hx=>?_;by_cases hi:i<8
  ·left;simp only[EH]at hc;rw[List.getElem?_append_left (by simp[Cfg.av];omega),List.getElem?_map]at hc;rw[List.getElem?_append_left (by simp[Cfg.av];omega)]at hx;rw[hx]at hc;exact(Option.some.inj hc).symm
  ·have:i=8:=by
    have:=(List.getElem?_eq_some_iff.1 hx).1;simp[Cfg.av]at this;omega
   subst this;right;right;cases hc;cases hx;exact⟨H.next+1,.i64,W,by simp only[Hb,eu];omega,by omega,by simp,aK (by simp only[Hb,eu]),.inl W⟩
 have key:∀k i,i+k=c.aT.toNat->∀Hi,Made Hb Hi (upd lH (H.next+2) (EH c (c.jK me i)))->∃H',FC cl [I me,.ref H.next 0 0,.ref (H.next+2) 0 0,I c.aT,I i] Hi=ZC (.ref (H.next+2) 0 0,H')/\Made Hb H' (upd lH (H.next+2) (EH c (c.jK me c.aT.toNat))):=by
  intro k
  induction k with
  |zero=>
   intro i hi Hi M;have h1:¬(i:Int)<c.aT:=by omega
   rw[WY];refine⟨Hi,?_,by rw[show c.aT.toNat=i by omega];exact M⟩;simp only[Int.reduceNeg,xq_,h1]
  |succ k ih=>
   intro i hi Hi M;have h1:(i:Int)<c.aT:=by omega
   have hbx:Hi.get H.next=.blk 0 31 c.av:=by rw[M.same _ (by simp only[Hb,eu];omega)];exact aK W
   have hbn:H.next<Hi.next:=Nat.lt_of_lt_of_le (by simp only[Hb,eu];omega) M.next
   have e1:lda 8 (.ref H.next 0 0) Hi=ZC (.agg c.av,Hi):=(iE (off:=0) (n:=8) hbx (Nat.le_refl 8)).trans W;have e2:=xw Hi c h i;have h6:(i:Int)+1=((i+1:Nat):Int):=by omega
   have h7:=wrap_i64 (a:=((i+1:Nat):Int)) (by have:=B.aT;omega) (by have:=B.aT;omega);have tail:∀Hj,Made Hb Hj (upd lH (H.next+2) (EH c (c.jK me (i+1))))->∃H',FD cl (I me) (.ref H.next 0 0) (.ref (H.next+2) 0 0) (I c.aT) (I i) Hj=ZC (.ref (H.next+2) 0 0,H')/\Made Hb H' (upd lH (H.next+2) (EH c (c.jK me c.aT.toNat))):=by
    intro Hj Mj;have⟨H',a1,a2⟩:=ih (i+1) (by omega) Hj Mj;refine⟨H',?_,a2⟩;simp only[xq_,FD,bM,h6,h7,a1]
   rw[WY];by_cases hm:c.bf i=me
   ·have⟨r,f1,f2,f3,f4⟩:=M.good.map (q:=H.next+2) aQ (i:=8) W;have⟨H',g1,g2,g3,g4⟩:=(f4 (by rw[M.base];simp only[Hb,iO,eu];omega)).1 i (.agg (Row.av ⟨0,-1,c.first i⟩));simp only[Row.av]at g1;have e3:=Xr Hi.guard c h i (by omega) h1;have Mj:Made Hb H' (upd lH (H.next+2) (EH c (c.jK me (i+1)))):=by
     refine(M.step g2 g3).as ?_;rw[pz,afs];simp only[Cfg.jK,hm,zad]
    have⟨H2,t1,t2⟩:=tail H' Mj;refine⟨H2,?_,t2⟩;simp only[Int.reduceNeg,Nat.reduceAdd,aI,xq_,hq_,h1,e1,e2,hm,f1,e3,asx,jf,fO,amU,g1,t1]
   ·have hm':¬(c.bf i=me):=hm;have⟨H2,t1,t2⟩:=tail Hi (M.as (by simp only[Cfg.jK,hm,zaf]));refine⟨H2,?_,t2⟩;simp only[Int.reduceNeg,xq_,h1,e1,e2,hm,t1]
 have⟨H',a1,a2⟩:=key c.aT.toNat 0 (by omega) H0 M0;refine⟨H',H.next+2,bg W W (aps _ _ _ _ (r:=(_,H')) ?_),a2.xu⟩;have l1:c.av[1]?=ZC (I c.aT):=rfl;have e:∀r,bd 277 [(0,.agg c.av),(1,.mp r)]=ZC (.agg (c.av++[.mp r])):=λr=>by
  simp only[xq_,ane,jf,fO,ahi,Cfg.av,eU];rfl
 have e2:∀r,(c.av++[AV.mp r]).all AV.aU=true:=λr=>by rw[List.all_append,eF];rfl
 simp only[Nat.reduceLT,xq_,hq_,aiE,aC (eF c),e,aC (e2 _),l1];exact a1
def jU {b n:Nat}{H1:ah}{g g':bG}{q:Nat}{cs:Q Cell}(G:Good b H1 g)(h:g q=ZC cs)(d:H1.next=n):cup n g g' q=ZC cs:=by
 unfold cup;rw[y (by have:=G.lt h;omega),h]
def lT {b n:Nat}{H1:ah}{g g':bG}{q:Nat}{cs:Q Cell}(G:Good b H1 g')(h:g' q=ZC cs)(d:n<=b):cup n g g' q=ZC cs:=by
 unfold cup;rw[F (by have:=G.le h;omega),h]
def drawn {H H':ah}{x:Z6 (AV × ah)}{v:AV}{g:bG}(e:x=ZC (v,H'))(M:Made H.guard H' g):∃b,unG H x=ZC (v,b)/\Made H b g:=
 ⟨_,by rw[e];rfl,M.afl⟩
def gU {H:ah}{r:Nat}{ty:XN}{c:Cfg}(h:H.get r=.blk 0 ty c.av):lda 8 (.ref r 0 0) H=ZC (.agg c.av,H):=(iE (off:=0) (n:=8) h (Nat.le_refl 8)).trans W
def aH.aci {P:XX}{t e:XN}(h:P.underlying t=ZC (.slice e)){H:ah}{x:AV}{m n:Nat}{cells:Q AV}(d:aH H x m n cells)(i:n≠0):qj P .eql t x (.s (.slice Z1 0 0))=ZC (B ZV):=by
 have⟨_,d⟩:=d;cases x with
 |sl r g o m n c ex=>exact CY h
 |vs n m l=>exact uf h
 |s v=>
  cases v with
  |slice a b c=>
   cases a with
   |none=>exact absurd d.2.2 i
   |some a=>exact d.elim
  |_=>exact d.elim
 |_=>exact d.elim
def EI(d t:Nat)(c:Cfg)(me:Int):Q Cell:=[.av (.ref d 0 0),.av (.ref t 0 0)]++c.av.map .av++[.av (I me)]
def nS(g:bG)(q d t:Nat)(c:Cfg)(me:Int)(h:Home):Prop:=g q=ZC (EI d t c me)/\g d=ZC (EH c h.dS)/\g t=ZC (iU h.bn)
def Rh {xs:Q AV}{cs:Q Cell}(h:cs=xs.map .av):∀(i:Nat) (c:Cell) (x:AV),cs[i]?=ZC c->xs[i]?=ZC x->c=.av x∨(x=zN/\∃m,c=.seq m []):=by
 subst h;intro i c x hc b;rw[List.getElem?_map,b]at hc;exact .inl (Option.some.inj hc).symm
def ak3(H:ah)(hb:H.base<=H.next)(c:Cfg)(h:c.ok=Z0)(me:Int):∃H' q d t g',cl 114 [.agg c.av,I me] H=ZC (.ref q 0 0,H')/\Made H H' g'/\nS g' q d t c me (.new c me):=by
 let H1:=H.new (.blk 0 31 c.av);have⟨H2',d,e1,M1⟩:=ach H1.guard (Nat.le_refl _) c h me;have⟨H2,e1,M1⟩:=drawn e1 M1;have⟨H3',t,e2,M2⟩:=afo H2.guard;have⟨H3,e2,M2⟩:=drawn e2 M2;let xs:Q AV:=[.ref d 0 0,.ref t 0 0]++c.av++[I me]
 have hall:xs.all AV.aU=true:=by
  simp only[xs,List.all_append,eF];rfl
 have M3:Made H3 (H3.new (.blk 0 166 xs)) (upd lH H3.next (EI d t c me)):=kP hall (by simp[xs,EI]) (Rh (by simp[xs,EI]));have g1:H1.get H.next=.blk 0 31 c.av:=aK W
 have l1:H.next<H1.next:=by simp only[H1,eu];omega
 have b1:=gU g1;have g2:H2.get H.next=.blk 0 31 c.av:=by rw[M1.same _ l1,g1]
 have g3:H3.get H.next=.blk 0 31 c.av:=by rw[M2.same _ (Nat.lt_of_lt_of_le l1 M1.next),g2]
 have b3:=gU g3;refine⟨_,H3.next,d,t,_,bg W W (aoD _ _ _ _ (r:=(_,H3.new (.blk 0 166 xs))) ?_),((M1.trans M2).trans M3).xu,?_⟩
 ·have e:bd 166 [(0,.ref d 0 0),(1,.ref t 0 0),(2,.agg c.av),(3,I me)]=ZC (.agg xs):=by
   simp only[xq_,am2,jf,fO,ag6,Cfg.av,eU];rfl
  simp only[H1]at e1 b1;simp only[Nat.reduceLT,xq_,hq_,ahX,aC (eF c),b1,e1,e2,b3,e,aC hall]
 ·refine⟨lT M3.good aQ (Nat.le_refl _),jU (M1.good.merge M2) (jU M1.good aQ W) W,jU (M1.good.merge M2) (lT M2.good aQ (Nat.le_refl _)) W⟩
def ak4(H:ah)(l:Q Opn)(d:l.length<1000000000){x:AV}(b:aH H x 3 l.length (l.flatMap Opn.av))(h0:l=[]->x=zN):∃H' q,cl 113 [x] H=ZC (.ref q 0 0,H')/\Made H H' (upd lH q (qZ ⟨l,[],ZV⟩)):=by
 have g:=afp H l d b h0 λh=>b.aci Tryz.underlying62 λe=>h (List.eq_nil_of_length_eq_zero e);have hc:(vsl 3 Opn.av l).cells=[vsl 3 Opn.av l]:=Ij;refine⟨_,H.next,bg W W (aoB _ _ _ (r:=(_,H.new (.blk 0 135 [vsl 3 Opn.av l,zN,zB]))) ?_),kP ?_ W λi c x hc b=>?_⟩
 ·simp only[Nat.reduceLT,Nat.reduceAdd,aI,xq_,hq_,ahW,g,amW,jf,fO,ag2,aC]
 ·simp only[hq_]
 ·match i with
  |0=>left;cases hc;cases b;rfl
  |1=>right;cases hc;cases b;exact⟨W,1,W⟩
  |2=>left;cases hc;cases b;rfl
  |i+3=>cases hc
def Made.add {H H1 b:ah}{g:bG}{q:Nat}{cs:Q Cell}(M:Made H H1 g)(d:Made H1 b (upd lH q cs)):Made H b (upd g q cs):=
 (M.trans d).as ((M.good.aqF (d.lt aQ).1).symm)
def OI(a:Nat->Nat)(c:Cfg)(me:Int)(d:bW)(num:Int):Q AV:=[.ref (a 1) 0 0,.ref (a 2) 0 0]++c.av++[I me,.ref (a 3) 0 0]++d.av++[I num]
def yN(a:Nat->Nat)(c:Cfg)(me:Int)(d:bW)(num:Int):Q Cell:=(OI a c me d num).map .av
def qO(g:bG)(a:Nat->Nat)(c:Cfg)(me:Int)(n:Node):Prop:=
 g (a 0)=ZC (yN a c me n.aO n.num)/\g (a 1)=ZC (dD n.aJ)/\g (a 2)=ZC (qZ n.bU)/\nS g (a 3) (a 4) (a 5) c me n.home
def Ri {a:Nat->Nat}{c:Cfg}{me:Int}{d:bW}{num:Int}:(OI a c me d num).all AV.aU=true:=by
 simp only[OI,List.all_append,eF,bH];rfl
def six(b d e g h i:Nat):Nat->Nat
 |0=>b
 |1=>d
 |2=>e
 |3=>g
 |4=>h
 |_=>i
def ak5(H:ah)(c:Cfg)(h:c.ok=Z0)(me:Int)(l:Q Opn)(hl:l.length<1000000000){x:AV}(hx:aH H x 3 l.length (l.flatMap Opn.av))(h0:l=[]->x=zN):
  ∃H' a g',cl 63 [.agg c.av,I me,x] H=ZC (.ref (a 0) 0 0,H')/\Made H H' g'/\qO g' a c me (.new c me l):=by
 have Bd:=qp h;let H1:=H.new (.blk 0 31 c.av);have⟨H2',q1,e1,M1⟩:=afm H1.guard c.sets c.ways Bd.sets.1 Bd.ways.1;have⟨H2,e1,M1⟩:=drawn e1 M1;have hx2:aH H2 x 3 l.length (l.flatMap Opn.av):=(hx.new (.blk 0 31 c.av)).iD M1.next λr _ hr=>M1.same r hr
 have⟨H3',q2,e2,M2⟩:=ak4 H2.guard l hl hx2.guard h0;have⟨H3,e2,M2⟩:=drawn e2 M2;have⟨H4',q3,q4,q5,g4,e3,M3,I3⟩:=ak3 H3.guard (Nat.le_refl _) c h me;have⟨H4,e3,M3⟩:=drawn e3 M3;let a:=six H4.next q1 q2 q3 q4 q5
 let xs:=OI a c me .zero 0;have M4:Made H4 (H4.new (.blk 0 75 xs)) (upd lH H4.next (yN a c me .zero 0)):=kP Ri (by simp[xs,yN]) (Rh W);have g1:H1.get H.next=.blk 0 31 c.av:=aK W
 have l1:H.next<H1.next:=by simp only[H1,eu];omega
 have l3:H.next<H3.next:=Nat.lt_of_lt_of_le l1 (Nat.le_trans M1.next M2.next)
 have b1:=gU g1;have g2:H2.get H.next=.blk 0 31 c.av:=by rw[M1.same _ l1,g1]
 have g3:H3.get H.next=.blk 0 31 c.av:=by rw[M2.same _ (Nat.lt_of_lt_of_le l1 M1.next),g2]
 have b3:=gU g3;have G12:=M1.good.merge M2;have aqG:=G12.merge M3;refine⟨_,a,_,bg W W (ato _ _ _ _ _ (r:=(_,H4.new (.blk 0 75 xs))) ?_),(((M1.trans M2).trans M3).trans M4).xu,?_⟩
 ·have e:bd 75 [(0,.ref q1 0 0),(1,.ref q2 0 0),(2,.agg c.av),(3,I me),(4,.agg [.ref q3 0 0])]=ZC (.agg xs):=by
   simp only[xq_,asw,jf,fO,amT,Cfg.av,eU];rfl
  have l3:c.av[3]?=ZC (I c.sets):=rfl;have l4:c.av[4]?=ZC (I c.ways):=rfl;have bx:∀r,(AV.ref r 0 0).cells=[.ref r 0 0]:=λ_=>rfl;have eb:∀r,bd 71 [(0,.ref r 0 0)]=ZC (.agg [.ref r 0 0]):=λr=>by
   simp only[xq_,asv,jf,fO,amR];rfl
  simp only[H1]at e1 b1;simp only[Nat.reduceLT,xq_,hq_,aoa,aC (eF c),l3,l4,e1,e2,e3,b3,eb,e,aC Ri,xs];rfl
 ·refine⟨lT M4.good aQ (Nat.le_refl _),jU aqG (jU G12 (jU M1.good aQ W) W) W,jU aqG (jU G12 (lT M2.good aQ (Nat.le_refl _)) W) W,?_⟩;have⟨i1,i2,i3⟩:=I3;exact⟨jU aqG (lT M3.good i1 (Nat.le_refl _)) W,jU aqG (lT M3.good i2 (Nat.le_refl _)) W,jU aqG (lT M3.good i3 (Nat.le_refl _)) W⟩
def oH(a:Nat->Nat):Q AV:=[.ref (a 0) 0 0,.ref (a 1) 0 0,.ref (a 2) 0 0,.ref (a 3) 0 0]
def afu(P:Nat->Nat->Nat)(n:Nat):Q Cell:=[.seq 4 ((List.range n).flatMap λi=>oH (P i))]
def wo(g:bG)(a:Nat->Nat)(c:Cfg)(p:Port):Prop:=
 g (a 0)=ZC (nP p.rq c.out)/\g (a 1)=ZC (nP p.rin c.inn)/\g (a 2)=ZC (nP p.an c.out)/\g (a 3)=ZC (nP p.ain 1)
def U1(P:Nat->Nat->Nat)(n:Nat):Prop:=∀i j s t,i<n->j<n->s<4->t<4->P i s=P j t->i=j/\s=t
def iG(g:bG)(f:Nat)(P:Nat->Nat->Nat)(c:Cfg)(fab:Fab):Prop:=
 g f=ZC (afu P fab.l.length)/\(∀i p,fab.l[i]?=ZC p->wo g (P i) c p)/\fab.out=c.out/\fab.inn=c.inn
def atY(b d e g:Nat):Nat->Nat
 |0=>b
 |1=>d
 |2=>e
 |_=>g
def Lp {P b:Nat->Nat->Nat}:∀n,(∀i,i<n->b i=P i)->(List.range n).flatMap (λi=>oH (b i))=(List.range n).flatMap λi=>oH (P i)
 |0,_=>rfl
 |n+1,h=>by
  rw[List.range_succ,List.flatMap_append,List.flatMap_append,Lp n λi hi=>h i V];simp only[List.flatMap_cons,List.flatMap_nil,h n V]
def pY(P:Nat->Nat->Nat)(n:Nat):((List.range n).flatMap λi=>oH (P i)).length=n*4:=by
 rw[dF (m:=4) (λ_=>rfl),List.length_range]
def wo.ext {g g':bG}{a:Nat->Nat}{c:Cfg}{p:Port}(h:wo g a c p)(b:∀s,s<4->g' (a s)=g (a s)):wo g' a c p:=by
 have⟨d,e,i,j⟩:=h;exact⟨by rw[b 0 V,d],by rw[b 1 V,e],by rw[b 2 V,i],by rw[b 3 V,j]⟩
def wo.some {g:bG}{a:Nat->Nat}{c:Cfg}{p:Port}(h:wo g a c p){s:Nat}(b:s<4):∃l r,g (a s)=ZC (nP l r):=by
 have⟨d,e,i,j⟩:=h
 match s,b with
 |0,_=>exact⟨_,_,d⟩
 |1,_=>exact⟨_,_,e⟩
 |2,_=>exact⟨_,_,i⟩
 |3,_=>exact⟨_,_,j⟩
def acj(H:ah)(hb:H.base<=H.next)(c:Cfg)(h:c.ok=true):∃H' f P g',cl 61 [.agg c.av] H=some (.ref f 0 0,H')/\Made H H' g'/\iG g' f P c (.new c)/\U1 P c.aF.toNat:=by
 have Bd:=qp h;let H1:=H.new (.blk 0 31 c.av);let H2:=H1.new (.blk 0 145 [zN]);let f:=H.next+1
 have M0:Made H1 H2 (upd lH f (afu (λ_ _=>0) 0)):=kP rfl rfl λi c x hc hx=>by
  match i with
  |0=>right;cases hc;cases hx;exact⟨rfl,4,rfl⟩
  |i+1=>cases hc
 have l0:c.av[0]?=some (I c.aF):=rfl;have l5:c.av[5]?=some (I c.out):=rfl;have l6:c.av[6]?=some (I c.inn):=rfl;have key:∀k i,i+k=c.aF.toNat->∀Hi gi P,Made H1 Hi gi->gi f=some (afu P i)->(∀j,j<i->wo gi (P j) c .zero)->U1 P i->
   ∃H' g' P',Og cl [.ref H.next 0 0,.ref f 0 0,I c.aF,I i] Hi=some (.ref f 0 0,H')/\Made H1 H' g'/\g' f=some (afu P' c.aF.toNat)/\(∀j,j<c.aF.toNat->wo g' (P' j) c .zero)/\U1 P' c.aF.toNat:=by
  intro k
  induction k with
  |zero=>
   intro i hi Hi gi P M hf hp hj;have h1:¬(i:Int)<c.aF:=by omega
   have hi':c.aF.toNat=i:=by omega
   rw[abh];refine⟨Hi,gi,P,?_,M,by rw[hi'];exact hf,by rw[hi'];exact hp,by rw[hi'];exact hj⟩;simp only[xq_,h1]
  |succ k ih=>
   intro i hi Hi gi P M hf hp hj;have h1:(i:Int)<c.aF:=by omega
   have h6:(i:Int)+1=((i+1:Nat):Int):=by omega
   have h7:=wrap_i64 (a:=((i+1:Nat):Int)) (by have:=Bd.aF;omega) (by have:=Bd.aF;omega);have lt1:H.next<H1.next:=by simp only[H1,eu];omega
   have bx:∀H':ah,(∀r,r<H1.next->H'.get r=H1.get r)->H'.get H.next=.blk 0 31 c.av:=λH' hs=>by rw[hs _ lt1];exact aK rfl
   have ld5:∀H':ah,(∀r,r<H1.next->H'.get r=H1.get r)->ld (.ref H.next 0 5) H'=some (I c.out,H'):=λH' hs=>by rw[dG (bx H' hs),l5];rfl
   have ld6:∀H':ah,(∀r,r<H1.next->H'.get r=H1.get r)->ld (.ref H.next 0 6) H'=some (I c.inn,H'):=λH' hs=>by rw[dG (bx H' hs),l6];rfl
   obtain⟨x,hx,cx⟩:=M.good.seq hf (i:=0) rfl;obtain⟨Ha',q1,a1,Ma⟩:=ab9 Hi.guard c.out (by have:=Bd.out;omega);obtain⟨Ha,a1,Ma⟩:=drawn a1 Ma;have Na:=M.add Ma;obtain⟨Hb',q2,a2,Mb⟩:=Xp Ha.guard c.inn (by have:=Bd.inn;omega);obtain⟨Hb,a2,Mb⟩:=drawn a2 Mb;have Nb:=Na.add Mb;obtain⟨Hc',q3,a3,Mc⟩:=ab9 Hb.guard c.out (by have:=Bd.out;omega);obtain⟨Hc,a3,Mc⟩:=drawn a3 Mc;have Nc:=Nb.add Mc;obtain⟨Hd',q4,a4,Md⟩:=Xp Hc.guard 1 (by omega);obtain⟨Hd,a4,Md⟩:=drawn a4 Md;have Nd:=Nc.add Md;have o1:=Ma.lt aQ;have o2:=Mb.lt aQ;have o3:=Mc.lt aQ;have o4:=Md.lt aQ;have hfl:=M.good.lt hf;have cd:Cur H1.next Hd f 0 x 4 _:=(((cx.ext Ma.next Ma.same).ext Mb.next Mb.same).ext Mc.next Mc.same).ext Md.next Md.same
   let a:=atY q1 q2 q3 q4;let o:gG:=.blk 0 142 (oH a);let g4:=upd (upd (upd (upd gi q1 (nP [] c.out)) q2 (nP [] c.inn)) q3 (nP [] c.out)) q4 (nP [] 1);have low:∀q,q<Hi.next->g4 q=gi q:=λq hq=>by
    simp only[g4];rw[bF (by omega),bF (by omega),bF (by omega),bF (by omega)]
   have hf4:g4 f=some (afu P i):=by rw[low f hfl,hf]
   obtain⟨x',He,Hf,t1,t2,t3,t4⟩:=(Nd.good.new o).append (e:=142) (by_:=32) (by rw[iO,Nd.base];simp only[H1,iO,eu];omega) hf4 (i:=0) rfl (by decide) (pY P i) (cd.new o) (jZ (ex:=true) (n:=1) (m:=4) (l:=oH a) rfl) rfl (by have:=Bd.aF;unfold most;omega) (by have:=Bd.aF;unfold most;omega);let P':Nat->Nat->Nat:=λj=>if j=i then a else P j
   have hP:∀j,j<i->P' j=P j:=λj hj=>by simp only[P'];rw[if_neg (by omega)]
   have hPi:P' i=a:=by simp only[P',if_true]
   have Mf:Made H1 Hf (upd g4 f (afu P' (i+1))):=by
    refine((Nd.new o).step t3 t4).as ?_
    congr 1
    simp only[afu,List.set_cons_zero];rw[List.range_succ,List.flatMap_append,Lp i hP,List.flatMap_cons,List.flatMap_nil,List.append_nil,hPi]
   have hq:∀s,s<4->Hi.next<=a s:=λs hs=>by
    match s,hs with
    |0,_=>exact o1.1
    |1,_=>exact Nat.le_trans Ma.next o2.1
    |2,_=>exact Nat.le_trans Ma.next (Nat.le_trans Mb.next o3.1)
    |3,_=>exact Nat.le_trans Ma.next (Nat.le_trans Mb.next (Nat.le_trans Mc.next o4.1))
   have hpl:∀j,j<i->∀s,s<4->P j s<Hi.next:=λj hji s hs=>by
    obtain⟨l,r,hg⟩:=(hp j hji).some hs;exact M.good.lt hg
   obtain⟨H',g',P'',r1,r2⟩:=ih (i+1) (by omega) Hf _ P' Mf aQ (λj hj1=>by
    by_cases hji:j=i
    ·subst hji;rw[hPi];have h4:∀s,s<4->a s≠f:=λs hs=>by have:=hq s hs;omega
     refine wo.ext (g:=g4) ⟨?_,?_,?_,?_⟩ λs hs=>bF (h4 s hs)
     ·show g4 q1=_;simp only[g4];rw[bF (by omega),bF (by omega),bF (by omega),aQ];rfl
     ·show g4 q2=_;simp only[g4];rw[bF (by omega),bF (by omega),aQ];rfl
     ·show g4 q3=_;simp only[g4];rw[bF (by omega),aQ];rfl
     ·show g4 q4=_;simp only[g4];rw[aQ];rfl
    ·rw[hP j (by omega)];refine(hp j (by omega)).ext λs hs=>?_;have hlt:=hpl j (by omega) s hs;obtain⟨l,r,hg⟩:=(hp j (by omega)).some hs;have:P j s≠f:=λe=>by rw[e,hf]at hg;cases hg
     rw[bF this,low _ hlt]) (λj k s t hj1 hk1 hs ht e=>by
    by_cases hji:j=i
    ·by_cases hki:k=i
     ·subst hji;subst hki;refine⟨rfl,?_⟩;rw[hPi]at e
      match s,hs,t,ht with
      |0,_,0,_|1,_,1,_|2,_,2,_|3,_,3,_=>rfl
      |0,_,1,_|0,_,2,_|0,_,3,_|1,_,0,_|1,_,2,_|1,_,3,_|2,_,0,_|2,_,1,_|2,_,3,_|3,_,0,_|3,_,1,_|3,_,2,_=>simp only[a,atY]at e;omega
     ·subst hji;rw[hPi,hP k (by omega)]at e;have:=hq s hs;have:=hpl k (by omega) t ht;omega
    ·by_cases hki:k=i
     ·subst hki;rw[hPi,hP j (by omega)]at e;have:=hq t ht;have:=hpl j (by omega) s hs;omega
     ·rw[hP j (by omega),hP k (by omega)]at e;exact hj j k s t (by omega) (by omega) hs ht e)
   refine⟨H',g',P'',?_,r2⟩;rw[abh];have s1:=ld5 Hi M.same;have s2:=ld6 Ha Na.same;have s3:=ld5 Hb Nb.same;have ep:∀r r',bd 121 [(0,.ref r 0 0),(1,.ref r' 0 0)]=some (.agg [.ref r 0 0,.ref r' 0 0]):=λr r'=>by
    simp only[xq_,ag1,jf,fO,ag0];rfl
   have eq:∀r r' r2 r3,bd 142 [(0,.agg [.ref r 0 0,.ref r' 0 0]),(1,.agg [.ref r2 0 0,.ref r3 0 0])]=some (.agg [.ref r 0 0,.ref r' 0 0,.ref r2 0 0,.ref r3 0 0]):=λr r' r2 r3=>by
    simp only[xq_,amX,jf,fO,ag3];rfl
   have eb:=jE (e:=142) (m:=4) (z:=[zP,zP,zP,zP]) (v:=.agg [.ref q1 0 0,.ref q2 0 0,.ref q3 0 0,.ref q4 0 0]) (H:=Hd) rfl rfl rfl;simp only[eU]at eb;simp only[o,a,oH,atY,f]at t1 t2 r1 hx;simp only[Nat.reduceLeDiff,xq_,hq_,h1,f,hx,s1,s2,s3,a1,a2,a3,a4,ep,eq,amL,Nat.one_mul,eb,t1,t2,bM,h6,h7,r1]
 obtain⟨H',g',P,r1,r2,r3,r4,r5⟩:=key c.aF.toNat 0 (by omega) H2 _ _ M0 aQ (λj hj=>by omega) (λi j s t hi=>by omega);refine⟨H',f,P,g',bg rfl rfl (atl _ _ _ (r:=(_,H')) ?_),r2.xu,⟨?_,?_,rfl,rfl⟩,r5⟩
 ·have e0:bd 145 []=some (.agg [zN]):=by
   simp only[xq_,amZ,jf,fO]
  have a0:([zN]:List AV).all AV.aU=true:=rfl;simp only[Nat.reduceLT,xq_,hq_,an8,aC (eF c),e0,aC a0,l0];exact r1
 ·rw[r3];simp only[Fab.new,List.length_replicate]
 ·intro i p hp;simp only[Fab.new]at hp;rw[List.getElem?_replicate]at hp;split at hp
  ·cases hp;exact r4 i (by omega)
  ·cases hp
structure Adr where
 jL:Nat
 fab:Nat
 trace:Nat
 N:Nat->Nat->Nat
 P:Nat->Nat->Nat
def JI(A:Adr)(c:Cfg):Q AV:=[.ref A.fab 0 0,.ref A.trace 0 0]++c.av
def oW(N:Nat->Nat->Nat)(n:Nat):Q AV:=(List.range n).map λi=>.ref (N i 0) 0 0
def xB(A:Adr)(c:Cfg)(n:Nat):Q Cell:=(JI A c).map .av++[.seq 1 (oW A.N n)]
def arT(N:Nat->Nat->Nat)(n:Nat):Prop:=∀i j s t,i<n->j<n->s<6->t<6->N i s=N j t->i=j/\s=t
structure gy(g:bG)(A:Adr)(m:dh):Prop where
 jL:g A.jL=some (xB A m.c m.aF.length)
 trace:g A.trace=some (mM m.trace)
 fab:iG g A.fab A.P m.c m.fab
 bC:∀(i:Nat) n,m.aF[i]?=some n->qO g (A.N i) m.c i n
 Xt:U1 A.P m.fab.l.length
 arU:arT A.N m.aF.length
 tf:A.trace≠A.fab
def qO.some {g:bG}{a:Nat->Nat}{c:Cfg}{me:Int}{n:Node}(h:qO g a c me n){s:Nat}(b:s<6):∃l,g (a s)=ZC l:=by
 have⟨d,e,i,j,k,m⟩:=h
 match s,b with
 |0,_=>exact⟨_,d⟩
 |1,_=>exact⟨_,e⟩
 |2,_=>exact⟨_,i⟩
 |3,_=>exact⟨_,j⟩
 |4,_=>exact⟨_,k⟩
 |5,_=>exact⟨_,m⟩
def qO.ext {g g':bG}{a:Nat->Nat}{c:Cfg}{me:Int}{n:Node}(h:qO g a c me n)(b:∀s,s<6->g' (a s)=g (a s)):qO g' a c me n:=by
 have⟨d,e,i,j,k,m⟩:=h;exact⟨by rw[b 0 V,d],by rw[b 1 V,e],by rw[b 2 V,i],by rw[b 3 V,j],by rw[b 4 V,k],by rw[b 5 V,m]⟩
def qO.inj {g:bG}{a:Nat->Nat}{c:Cfg}{me:Int}{n:Node}(h:qO g a c me n){s t:Nat}(b:s<6)(d:t<6)(e:a s=a t):s=t:=by
 have⟨i,j,k,m,o,p⟩:=h;have q:(g (a s)).map List.length=(g (a t)).map List.length:=by rw[e]
 match s,b,t,d with
 |0,_,0,_|1,_,1,_|2,_,2,_|3,_,3,_|4,_,4,_|5,_,5,_=>rfl
 |0,_,1,_|0,_,2,_|0,_,3,_|0,_,4,_|0,_,5,_|1,_,0,_|1,_,2,_|1,_,3,_|1,_,4,_|1,_,5,_|2,_,0,_|2,_,1,_|2,_,3,_|2,_,4,_|2,_,5,_|3,_,0,_|3,_,1,_|3,_,2,_|3,_,4,_|3,_,5,_|4,_,0,_|4,_,1,_|4,_,2,_|4,_,3,_|4,_,5,_|5,_,0,_|5,_,1,_|5,_,2,_|5,_,3,_|5,_,4,_=>
  simp[i,j,k,m,o,p,yN,OI,Cfg.av,bW.av,dD,qZ,EI,EH,iU]at q
def I8 {N N':Nat->Nat->Nat}{n:Nat}(h:∀i,i<n->N' i=N i):oW N' (n+1)=oW N n++[.ref (N' n 0) 0 0]:=by
 unfold oW;rw[List.range_succ,List.map_append]
 congr 1
 refine List.map_congr_left λi hi=>?_;rw[h i (List.mem_range.1 hi)]
def yt {c:Cfg}{ps:Q (Q Opn)}(h:c.nR ps=Z0):(ps.length:Int)=c.aF/\∀l∈ps,l.length<=24:=by
 simp only[Cfg.nR,Bool.and_eq_true,zab,List.all_eq_true]at h;exact⟨h.2,λl b=>(h.1 l b).1⟩
def Ls(H:ah)(hb:H.base<=H.next)(c:Cfg)(h:c.ok=true){x:AV}{ps:List (List Opn)}(hx:OG H x ps)(hp:c.nR ps=true):∃H' A g',cl 20 [.agg c.av,x] H=some (.tup [.ref A.jL 0 0,I 0],H')/\Made H H' g'/\gy g' A (.new c ps):=by
 have Bd:=qp h;obtain⟨hp1,hp2⟩:=yt hp;have hn:=Bd.aF;let H1:=H.new (.blk 0 31 c.av);have lt1:H.next<H1.next:=by simp only[H1,eu];omega
 have g1:H1.get H.next=.blk 0 31 c.av:=aK rfl
 have b1:=gU g1;have e1:=afq H1 c h;have e2:=acg H1 c h (hx.iD (H':=H1) (by omega) λr hr=>aZ hr) (by omega) λl hl=>by have:=hp2 l hl;omega
 rw[hp]at e2;have e3:=kC H1 c.init (by have:=Bd.init;have:=Bd.fG;omega);obtain⟨H2',f,P,gf,e4,M1,F1,J1⟩:=acj H1.guard (Nat.le_refl _) c h;obtain⟨H2,e4,M1⟩:=drawn e4 M1;obtain⟨H3',t,e5,M2⟩:=afn H2.guard;obtain⟨H3,e5,M2⟩:=drawn e5 M2;let A0:Adr:=⟨H3.next,f,t,λ_ _=>0,P⟩
 have bx:∀H':ah,(∀r,r<H1.next->H'.get r=H1.get r)->H'.get H.next=.blk 0 31 c.av:=λH' hs=>by rw[hs _ lt1,g1]
 have M12:=M1.add M2;have b3:=gU (bx H3 M12.same);have b2:=gU (bx H2 M1.same);let xs:=JI A0 c++[zN]
 have hall:xs.all AV.aU=true:=by simp only[xs,JI,List.all_append,eF];rfl
 have M3:Made H3 (H3.new (.blk 0 53 xs)) (upd lH H3.next (xB A0 c 0)):=by
  refine kP hall (by simp[xs,xB]) λi cc y hc hy=>?_;simp only[xB]at hc;by_cases hi:i<(JI A0 c).length
  ·left;rw[List.getElem?_append_left (by rw[List.length_map];exact hi),List.getElem?_map]at hc;rw[List.getElem?_append_left hi]at hy;rw[hy]at hc;exact(Option.some.inj hc).symm
  ·right;have hlen:(JI A0 c).length=10:=rfl;have:i=10:=by
    have:=(List.getElem?_eq_some_iff.1 hy).1;simp only[xs,List.length_append,List.length_cons,List.length_nil]at this;omega
   subst this;cases hc;cases hy;exact⟨rfl,1,rfl⟩
 have M0:=M12.add M3;let g0:=upd (upd gf t (mM [])) H3.next (xB A0 c 0)
 let K:=H3.next
 have key:∀k i,i+k=ps.length->∀Hi gi N,Made H1 Hi gi->gi K=some (xB { A0 with N:=N } c i)->(∀q,q<K->gi q=g0 q)->(∀(j:Nat) l,j<i->ps[j]?=some l->qO gi (N j) c j (.new c j l))->arT N i->
   ∃H' g' N',N9 cl [.ref H.next 0 0,.ref K 0 0,x,I ps.length,I i] Hi=some (.tup [.ref K 0 0,I 0],H')/\Made H1 H' g'/\g' K=some (xB { A0 with N:=N' } c ps.length)/\(∀q,q<K->g' q=g0 q)/\(∀(j:Nat) l,j<ps.length->ps[j]?=some l->qO g' (N' j) c j (.new c j l))/\arT N' ps.length:=by
  intro k
  induction k with
  |zero=>
   intro i hi Hi gi N M hm hl hnd hj;have h1:¬(i:Int)<ps.length:=by omega
   have hi':ps.length=i:=by omega
   rw[aa8];refine⟨Hi,gi,N,?_,M,by rw[hi'];exact hm,hl,by rw[hi'];exact hnd,by rw[hi'];exact hj⟩;simp only[xq_,h1]
  |succ k ih=>
   intro i hi Hi gi N M hm hlow hnd hj;have h1:(i:Int)<ps.length:=by omega
   have h6:(i:Int)+1=((i+1:Nat):Int):=by omega
   have h7:=wrap_i64 (a:=((i+1:Nat):Int)) (by omega) (by omega);have hxi:=hx.iD (H':=Hi) (Nat.le_trans (Nat.le_of_lt lt1) M.next) λr hr=>by rw[M.same r (by omega)];exact aZ hr
   obtain⟨cells,x1,x2⟩:=hxi;have hcl:cells.length=ps.length:=by have:=x1.1;omega
   have s1:=x1.ix (k:=.i64) (i:=(i:Int)) (by omega) h1;rw[Int.toNat_natCast]at s1;have s2:=x1.ld (i:=i) (by omega);obtain⟨v,hv⟩:∃v,cells[i]?=some v:=⟨_,List.getElem?_eq_getElem (by omega)⟩
   obtain⟨l,hl⟩:∃l,ps[i]?=some l:=⟨_,List.getElem?_eq_getElem (by omega)⟩
   rw[hv]at s2;obtain⟨v1,v2⟩:=x2 i v l hv hl;have s4:=gU (bx Hi M.same);obtain⟨y,hy,cy⟩:=M.good.seq hm (i:=10) (m:=1) (l:=oW N i) rfl;obtain⟨Ha',a,ga,a1,Ma,Ia⟩:=ak5 Hi.guard c h i l (by have:=hp2 l (List.mem_of_getElem? hl);omega) v1.guard v2;obtain⟨Ha,a1,Ma⟩:=drawn a1 Ma;have Na:=M.trans Ma;let ga':=cup Hi.next gi ga
   have hK:=M.good.lt hm;have ajn:∀q,q<Hi.next->ga' q=gi q:=λq hq=>by simp only[ga',cup,hq,if_true]
   have hma:ga' K=some (xB { A0 with N:=N } c i):=by rw[ajn K hK,hm]
   let o:gG:=.blk 0 64 [.ref (a 0) 0 0];have hnl:(oW N i).length=i*1:=by simp[oW]
   obtain⟨y',He,Hf,t1,t2,t3,t4⟩:=(Na.good.new o).append (e:=64) (by_:=8) (by rw[iO,Na.base];simp only[H1,iO,eu];omega) hma (i:=10) rfl (by decide) hnl ((cy.ext Ma.next Ma.same).new o) (jZ (ex:=true) (n:=1) (m:=1) (l:=[.ref (a 0) 0 0]) rfl) rfl (by unfold most;omega) (by unfold most;omega);let N':Nat->Nat->Nat:=λj=>if j=i then a else N j
   have hN:∀j,j<i->N' j=N j:=λj hj=>by simp only[N'];rw[if_neg (by omega)]
   have hNi:N' i=a:=by simp only[N',if_true]
   have Mf:Made H1 Hf (upd ga' K (xB { A0 with N:=N' } c (i+1))):=by
    refine((Na.new o).step t3 t4).as ?_
    congr 1
    simp only[xB];rw[I8 hN,hNi];rfl
   have hal:∀s,s<6->Hi.next<=a s/\ga' (a s)=ga (a s):=λs hs=>by
    obtain⟨l,hg⟩:=Ia.some hs;have:=(Ma.lt hg).1;exact⟨this,by simp only[ga',cup];rw[if_neg (by omega)]⟩
   have hNl:∀j,j<i->∀s,s<6->N j s<Hi.next:=λj hji s hs=>by
    obtain⟨lj,hlj⟩:∃l,ps[j]?=some l:=⟨_,List.getElem?_eq_getElem (by omega)⟩
    obtain⟨l,hg⟩:=(hnd j lj hji hlj).some hs;exact M.good.lt hg
   obtain⟨H',g',N'',r1,r2⟩:=ih (i+1) (by omega) Hf _ N' Mf aQ (λq hq=>by
    rw[bF (by omega),ajn q (by omega),hlow q hq]) (λj lj hj1 hlj=>by
    by_cases hji:j=i
    ·subst hji;rw[hl]at hlj;cases hlj;rw[hNi];exact Ia.ext λs hs=>by
      obtain⟨h1,h2⟩:=hal s hs;rw[bF (by omega),h2]
    ·rw[hN j (by omega)];refine(hnd j lj (by omega) hlj).ext λs hs=>?_;have hlt:=hNl j (by omega) s hs;have hne:N j s≠K:=λe=>by
      have I:=hnd j lj (by omega) hlj;obtain⟨l',hg⟩:=I.some hs;obtain⟨h0,h1,h2,h3,h4,h5⟩:=I;have hh:(gi (N j s)).map (λl=>l[10]?)=some (some (.seq 1 (oW N i))):=by rw[e,hm];rfl
      match s,hs with
      |0,_=>rw[h0]at hh;simp[yN,OI,Cfg.av,bW.av]at hh
      |1,_=>rw[h1]at hh;simp[dD]at hh
      |2,_=>rw[h2]at hh;simp[qZ]at hh
      |3,_=>rw[h3]at hh;simp[EI,Cfg.av]at hh
      |4,_=>rw[h4]at hh;simp[EH,Cfg.av]at hh
      |5,_=>rw[h5]at hh;simp[iU]at hh
     rw[bF hne,ajn _ hlt]) (λj k s t hj1 hk1 hs ht e=>by
    by_cases hji:j=i
    ·by_cases hki:k=i
     ·subst hji;subst hki;rw[hNi]at e;exact⟨rfl,Ia.inj hs ht e⟩
     ·subst hji;rw[hNi,hN k (by omega)]at e;have:=(hal s hs).1;have:=hNl k (by omega) t ht;omega
    ·by_cases hki:k=i
     ·subst hki;rw[hNi,hN j (by omega)]at e;have:=(hal t ht).1;have:=hNl j (by omega) s hs;omega
     ·rw[hN j (by omega),hN k (by omega)]at e;exact hj j k s t (by omega) (by omega) hs ht e)
   refine⟨H',g',N'',?_,r2⟩;rw[aa8];have eb:=jE (e:=64) (m:=1) (z:=[zP]) (v:=.ref (a 0) 0 0) (H:=Ha) rfl rfl rfl;have ec:(AV.ref (a 0) 0 0).cells=[.ref (a 0) 0 0]:=rfl;rw[ec]at eb;simp only[o]at t1 t2;simp only[Nat.reduceLeDiff,xq_,hq_,h1,s1,s2,s4,hy,a1,asr,Nat.one_mul,eb,t1,t2,bM,h6,h7,r1]
 have hfl:f<H2.next:=M1.good.lt F1.1
 have ht:=M2.lt aQ;obtain⟨H',g',N,r1,r2,r3,r4,r5,r6⟩:=key ps.length 0 (by omega) _ g0 (λ_ _=>0) M0 aQ (λq hq=>rfl) (λj l hj=>by omega) (λi j s t hi=>by omega);have hg0:∀q,q<H2.next->g0 q=gf q:=λq hq=>by simp only[g0];rw[bF (by omega),bF (by omega)]
 refine⟨H',{ A0 with N:=N },g',bg rfl rfl (asR _ _ _ _ (r:=(_,H')) ?_),r2.xu,?_⟩
 ·have l7:c.av[7]?=some (dat c.init):=rfl;have b0:qj Tryz.prog .neq 57 (I 0) (I 0)=some (B false):=by kernel_rfl
  have st7:st 1 (.ref H.next 0 7) (dat c.init) H1=some (aX,H1):=by
   simp only[H1];rw[pR rfl];simp only[Nat.reduceAdd,aI,xq_,hq_,Cfg.av,hb]
  have em:bd 53 [(0,.ref f 0 0),(1,.ref t 0 0),(2,.agg c.av)]=some (.agg xs):=by
   simp only[xq_,asu,jf,fO,amQ,Cfg.av,eU];rfl
  have el:=(hx.iD (H':=H3.new (.blk 0 53 xs)) (by have:=M12.next;simp only[eu];omega) λr hr=>by rw[M0.same r (by omega)];exact aZ hr)
  obtain⟨cells,x1,_⟩:=el;have el:=x1.lnS;simp only[H1]at b1 e1 e2 e3 e4 e5 st7;simp only[Nat.reduceLT,xq_,hq_,anN,aC (eF c),b1,e1,b0,e2,e3,l7,st7,e4,e5,b3,em,aC hall,el];exact r1
 ·refine⟨?_,?_,⟨?_,?_,rfl,rfl⟩,?_,?_,?_,?_⟩
  ·rw[r3];simp only[dh.new,List.length_mapIdx]
  ·rw[r4 t ht.2];simp only[g0];rw[bF (by omega),aQ];rfl
  ·show g' f=_;rw[r4 f (by have:=M2.next;omega),hg0 f hfl,F1.1];rfl
  ·intro i p hp;have I:=F1.2.1 i p hp;exact I.ext λs hs=>by
    obtain⟨l,r,hg⟩:=I.some hs;have:=M1.good.lt hg;rw[r4 _ (by have:=M2.next;omega),hg0 _ this]
  ·intro i n hi;simp only[dh.new,List.getElem?_mapIdx,Option.map_eq_some_iff]at hi;obtain⟨l,hl,rfl⟩:=hi;exact r5 i l (List.getElem?_eq_some_iff.1 hl).1 hl
  ·simp only[dh.new,Fab.new,List.length_replicate];exact J1
  ·simp only[dh.new,List.length_mapIdx];exact r6
  ·show t≠f;omega
section
variable {b:Nat}{H:ah}{g:bG}{q:Nat}
def Xu(G:Good b H g){p:Proc}(h:g q=ZC (qZ p))(m:p.ops.length<1000)(o:p.bI.length<1000):cl 66 [.ref q 0 0] H=ZC (I p.left,H):=by
 refine bg W W (atr _ _ _ ?_);have d:=G.load h (i:=0) W;have e:=(Ig eG H p.ops).lnS;have⟨x,j,c⟩:=G.seq h (i:=1) W;have k:=(c.is (n:=p.bI.length) J O).lnS;simp only[xq_,aoc,d,e,j,k,lF,Proc.left];rw[wrap_i64 V V]
def acn(G:Good b H g){p:Proc}(h:g q=ZC (qZ p)):cl 64 [.ref q 0 0] H=ZC (B p.fD,H):=by
 refine bg W W (atp _ _ _ ?_);have d:=G.load h (i:=2) W;simp only[xq_,aob,d]
def aco(G:Good b H g){l:Q Pkt}{room:Int}(h:g q=ZC (nP l room)):cl 52 [.ref q 0 0] H=ZC (I l.length,H):=by
 refine bg W W (atc _ _ _ ?_);have⟨x,d,c⟩:=G.seq h (i:=0) W;have e:=(c.is J (dF cO l)).lnS;simp only[xq_,anZ,d,e]
def YN {H:ah}{s d r:Nat}{l:Q Int}(b:l≠[])(e:s<=r){ty:XN}(g:H.get r=.blk 0 ty (l.map I)){ex:Bool}:bV H s (d+2) (.sl r 0 0 1 l.length l.length ex)=ZC (dat l):=by
 rw[qN b];refine kS e (cells:=l.map I) ?_ (iM _ λx h=>rZ _ x h _ _);simp only[cZ,g];rw[y ⟨zac,O⟩,List.drop_zero,List.take_of_length_le O]
end
section
variable {b:Nat}{H:ah}{g:bG}{q f:Nat}{P:Nat->Nat->Nat}{c:Cfg}{fab:Fab}
def Cur.elemAt {i m n:Nat}{x:AV}{l:List AV}(g:Cur b H q i x m l)(hm:0<m)(h:l.length=n*m){j:Nat}(z:j<n):
  ∃r gg o,(∀k:IntKind,ix m x (.s (.int k j)) H=some (.ref r gg o,H))/\(∀k,k<m->ld (.ref r gg (o+k)) H=(l[j*m+k]?).map λv=>(v,H))/\lda m (.ref r gg o) H=some (.agg ((l.drop (j*m)).take m),H):=by
 have w:=g.is hm h;have d:(j+1)*m<=n*m:=Nat.mul_le_mul_right _ V;rw[Nat.add_mul,Nat.one_mul]at d;rcases g.length hm h with⟨_,A⟩|⟨r,gg,off,e,ex,C,all,rfl,k1,D,E,k4,p,F,G,u⟩
 ·omega
 have y:n*m<=e*m:=Nat.mul_le_mul_right _ k4;refine⟨r,gg,off+j*m,λk=>?_,λk hk=>?_,?_⟩
 ·have:=w.ix (k:=k) (i:=(j:Int)) V V;rw[Int.toNat_natCast]at this;exact this
 ·rw[dG p,u,List.getElem?_take,if_pos V,List.getElem?_drop,Nat.add_assoc]
 ·rw[iE p V,u]
  congr 3
  rw[List.drop_take,List.drop_drop,List.take_take,Nat.min_eq_left V]
def acp {α:Type}{enc:α->Q AV}{m:Nat}(b:∀a,(enc a).length=m)(l:Q α)(i:Nat)(a:α)(hi:l[i]?=ZC a){k:Nat}(hk:k<m):(l.flatMap enc)[i*m+k]?=(enc a)[k]?:=by
 have:=vg b l i a hi;rw[<-this,List.getElem?_take,y hk,List.getElem?_drop]
def F9(G:Good b H g)(F:iG g f P c fab)(k:fab.l.length<1000)(i:Int):cl 71 [.ref f 0 0,I i] H=ZC (B (fab.is i),H):=by
 refine bg W W (atv _ _ _ _ ?_);have⟨x,e,h⟩:=G.seq F.1 (i:=0) W;have j:=(h.is J (pY P _)).lnS;by_cases d:0<=i
 ·simp only[xq_,akD,d,e,j,Fab.is,Bool.true_and]
 ·simp only[xq_,akD,d,Fab.is,Bool.false_and]
def iG.port(F:iG g f P c fab){i:Nat}(hi:i<fab.l.length):wo g (P i) c (fab.port i):=by
 have:=F.2.1 i (fab.l[i]) (List.getElem?_eq_getElem hi);unfold Fab.port;rw[Int.toNat_natCast,List.getD_eq_getElem?_getD,List.getElem?_eq_getElem hi];exact this
end
section
variable {b:Nat}{H:ah}{g:bG}{q f:Nat}{P:Nat->Nat->Nat}{c:Cfg}{fab:Fab}
def ak6 {e:XN}{H:ah}{a b c d:Nat}:bsl e 2 [zP,zP] 2 [(0,.agg [.ref a 0 0,.ref b 0 0]),(1,.agg [.ref c 0 0,.ref d 0 0])] H=ZC (.sl H.next 0 0 2 2 2 Z0,H.new (.blk 0 e [.ref a 0 0,.ref b 0 0,.ref c 0 0,.ref d 0 0])):=rfl
def iV(P:Nat->Nat->Nat)(n:Nat):Q AV:=(List.range n).flatMap λi=>oH (P i)
def iG.lt(G:Good b H g)(F:iG g f P c fab){i s:Nat}(hi:i<fab.l.length)(d:s<4):P i s<H.next:=by
 have⟨l,r,h⟩:=(F.port hi).some d;exact G.lt h
def Xv(G:Good b H g)(F:iG g f P c fab)(hn:fab.l.length<1000)(h0:fab.l.length≠0):
  cl 51 [.ref f 0 0] H=ZC (.vs (2*fab.l.length) 2 (iV P fab.l.length),H):=by
 have⟨x,W,Q⟩:=G.guard.seq F.1 (i:=0) Z3;have X:=(Q.is J (pY P _)).lnS;have C:∀d,∀y∈iV P fab.l.length,∀q,bV q H.next (d+1) y=ZC y:=λd y w q=>by
  have⟨i,hi,w⟩:=List.mem_flatMap.1 w;have hi:=List.mem_range.1 hi;simp only[oH,List.mem_cons,List.not_mem_nil,zan]at w;rcases w with rfl|rfl|rfl|rfl <;> · rw[bV];exact YY (F.lt G hi V)
 have key:∀k i,i+k=fab.l.length->∀h t,Own H.next h t 2 (iV P i)->Step H.next H.guard h->
   ∃v q,Oe cl [t,x,I fab.l.length,I i] h=ZC (v,q)/\Own H.next q v 2 (iV P fab.l.length):=by
  intro k
  induction k with
  |zero=>
   intro i hi h t o s;have D:¬(i:Int)<fab.l.length:=V
   rw[abf];refine⟨t,h,?_,by rw[show fab.l.length=i by omega];exact o⟩;simp only[xq_,D]
  |succ k ih=>
   intro i hi h t o s;have D:(i:Int)<fab.l.length:=V
   have h6:(i:Int)+1=((i+1:Nat):Int):=V
   have h7:=wrap_i64 (a:=((i+1:Nat):Int)) V V;have⟨r,gg,off,E,_,K⟩:=(Q.ext s.next s.low).elemAt J (pY P _) (j:=i) V;have E:=E .i64;rw[vg (m:=4) (λ_=>rfl) _ i i (List.getElem?_range V)]at K;let H1:=h.new (.blk 0 142 (oH (P i)));have p:(iV P i).length=(2*i)*2:=by
    rw[iV,pY];omega
   have sb:h.base=H.next:=s.base
   have sn:H.next<=h.next:=s.next
   have⟨v',Hj,R,T,t3⟩:=((o.new (.blk 0 142 (oH (P i)))).new (.blk 0 121 (oH (P i)))).step (e:=121) (by_:=16) (by simp only[eu];omega) (by simp only[iO];omega) J p (jZ (ex:=Z0) (n:=2) (m:=2) (l:=oH (P i)) Z3) Z3 (by unfold most;omega) (by unfold most;omega);have z:iV P (i+1)=iV P i++oH (P i):=by
    simp only[iV];rw[List.range_succ,List.flatMap_append,List.flatMap_cons,List.flatMap_nil,List.append_nil]
   rw[<-z]at T;have⟨v,q,L,A⟩:=ih (i+1) V Hj v' T ((s.trans ((Step.new _ V).trans (Step.new _ (by simp only[eu];omega)))).trans t3);refine⟨v,q,?_,A⟩;rw[abf];have ca:∀a b c d,(AV.agg [.ref a 0 0,.ref b 0 0,.ref c 0 0,.ref d 0 0]).cells=[.ref a 0 0,.ref b 0 0,.ref c 0 0,.ref d 0 0]:=λ_ _ _ _=>rfl;have u:h.base<=h.next:=V
   simp only[oH,eu]at K R;simp only[Nat.reduceAdd,Nat.reduceLeDiff,aI,xq_,hq_,D,E,K,u,amK,Nat.reduceMul,ak6,R,bM,h6,h7,L]
 have⟨v,q,L,A⟩:=key fab.l.length 0 V H.guard zN (.inl ⟨Z3,Z3⟩) (Step.refl _ _);refine gY Z3 Z3 (atb _ _ _ (r:=(v,q)) ?_) ?_
 ·simp only[xq_,anY,W,X];exact L
 ·have p:(iV P fab.l.length).length=(2*fab.l.length)*2:=by
   rw[iV,pY];omega
  have z:=A.is J p;have⟨c1,c2⟩:=z.wQ;rcases A with⟨rfl,e⟩|⟨r,gg,off,n',aa,ex,ty,all,rfl,k2,k3,k4,k5,k6,k7,k8⟩
  ·rw[e]at p;simp only[List.length_nil]at p;omega
  ·have M:n'=2*fab.l.length:=by
    have:=z.2.2.1;exact this
   subst M;exact kS k2 c2 (iM _ λy w=>C _ y w _)
def acr {α β:Type}{u v:α->β}:∀(l:Q α) (i:Nat),(l.flatMap λp=>[u p,v p])[2*i]?=l[i]?.map u/\(l.flatMap λp=>[u p,v p])[2*i+1]?=l[i]?.map v
 |[],i=>by simp
 |a::l,0=>by simp
 |a::l,i+1=>by
  have:=acr (u:=u) (v:=v) l i;rw[show 2*(i+1)=2*i+1+1 by omega]
  simpa using this
def iG.ajo(F:iG g f P c fab){j:Nat}(o:j<2*fab.l.length):
  ∃l a a',fab.jy[j]?=ZC l/\((iV P fab.l.length).drop (j*2)).take 2=[.ref a 0 0,.ref a' 0 0]/\g a=ZC (nP l c.out):=by
 have hi:j / 2<fab.l.length:=V
 have k:=F.port hi;have n:fab.l[j / 2]?=ZC (fab.port (j / 2:Nat)):=by
  unfold Fab.port;rw[Int.toNat_natCast,List.getD_eq_getElem?_getD,List.getElem?_eq_getElem hi];rfl
 have b:=vg (m:=4) (enc:=λi=>oH (P i)) (λ_=>rfl) (List.range fab.l.length) (j / 2) (j / 2) (List.getElem?_range hi);have d:=acr (u:=Port.rq) (v:=Port.an) fab.l (j / 2);rw[n]at d;rcases Nat.mod_two_eq_zero_or_one j with h|h
 ·refine⟨_,P (j / 2) 0,P (j / 2) 1,?_,?_,k.1⟩
  ·have:=d.1;rw[show 2*(j / 2)=j by omega]at this;exact this
  ·have e:((iV P fab.l.length).drop (j*2)).take 2=(((iV P fab.l.length).drop (j / 2*4)).take 4).take 2:=by
    rw[List.take_take,show j / 2*4=j*2 by omega];rfl
   rw[e];exact(zaj (List.take 2) b).trans W
 ·refine⟨_,P (j / 2) 2,P (j / 2) 3,?_,?_,k.2.2.1⟩
  ·have:=d.2;rw[show 2*(j / 2)+1=j by omega]at this;exact this
  ·have e:((iV P fab.l.length).drop (j*2)).take 2=((((iV P fab.l.length).drop (j / 2*4)).take 4).drop 2).take 2:=by
    rw[List.drop_take,List.drop_drop,List.take_take,show j / 2*4+2=j*2 by omega];rfl
   rw[e];exact(zaj (λl=>(List.drop 2 l).take 2) b).trans W
end
section
variable {b:Nat}{H:ah}{g:bG}{q f:Nat}{P:Nat->Nat->Nat}{c:Cfg}{fab:Fab}
def afv {ls:Q (Q Pkt)}{j:Nat}{l:Q Pkt}(h:ls[j]?=ZC l):((ls.take (j+1)).map List.length).sum=((ls.take j).map List.length).sum+l.length:=by
 rw[List.take_succ,h];simp
def Rj:∀l:Q Port,((l.flatMap λp=>[p.rq,p.an]).map List.length).sum=(l.flatMap λp=>p.rq++p.an).length
 |[]=>rfl
 |p::l=>by
  have:=Rj l;simp only[List.flatMap_cons,List.map_append,List.sum_append,List.length_append,this];simp
def qP:∀l:Q Port,(l.flatMap λp=>[p.rq,p.an]).length=2*l.length
 |[]=>rfl
 |p::l=>by
  have:=qP l;simp only[List.flatMap_cons,List.length_append,this,List.length_cons,List.length_nil];omega
def aqH {ls:Q (Q Pkt)}{m:Nat}(h:∀l∈ls,l.length<=m):(ls.map List.length).sum<=ls.length*m:=by
 induction ls with
 |nil=>simp
 |cons l ls d=>
  have g:=h l O;have:=d λe b=>h e (by simp[b]);simp only[List.map_cons,List.sum_cons,List.length_cons,Nat.add_mul,Nat.one_mul];omega
def afw(G:Good b H g)(F:iG g f P c fab)(y:fab.l.length<1000)(h0:fab.l.length≠0)(z:∀l∈fab.jy,l.length<1000):
  cl 17 [.ref f 0 0] H=ZC (I fab.under,H):=by
 have A:=Xv G.guard F y h0;have o:(iV P fab.l.length).length=(2*fab.l.length)*2:=by
  rw[iV,pY];omega
 have e:∀H,aH H (.vs (2*fab.l.length) 2 (iV P fab.l.length)) 2 (2*fab.l.length) (iV P fab.l.length):=λH=>aH.vs o;have C:=(e H.guard).lnS;have u:fab.jy.length=2*fab.l.length:=qP fab.l;have key:∀k j,j+k=2*fab.l.length->∀d,Step H.next H.guard d->
   ∃m,N8 cl [I ((fab.jy.take j).map List.length).sum,.vs (2*fab.l.length) 2 (iV P fab.l.length),I (2*fab.l.length:Nat),I j] d=ZC (I fab.under,m):=by
  intro k
  induction k with
  |zero=>
   intro j D d s;have n:¬(j:Int)<(2*fab.l.length:Nat):=V
   rw[aa5];refine⟨d,?_⟩;have E:((fab.jy.take j).map List.length).sum=fab.under:=by
    rw[List.take_of_length_le V];exact Rj fab.l
   simp only[xq_,n,E]
  |succ k K=>
   intro j D d s;have n:(j:Int)<(2*fab.l.length:Nat):=V
   have L:(j:Int)+1=((j+1:Nat):Int):=V
   have M:=wrap_i64 (a:=((j+1:Nat):Int)) V V;have v:=(e d).ix (k:=.i64) (i:=(j:Int)) V n;rw[Int.toNat_natCast]at v;have w:=(e d).lda (i:=j) V;have⟨l,a,a',Q,R,T⟩:=F.ajo (j:=j) V;rw[R]at w;have W:=afv Q;have X:((fab.jy.take (j+1)).map List.length).sum<=(fab.jy.take (j+1)).length*1000:=aqH λl hl=>Nat.le_of_lt (z l (List.mem_of_mem_take hl));have aa:(fab.jy.take (j+1)).length<=2*fab.l.length:=by rw[List.length_take];omega
   have h8:((((fab.jy.take j).map List.length).sum:Nat):Int)+(l.length:Int)=((((fab.jy.take (j+1)).map List.length).sum:Nat):Int):=V
   have h9:=wrap_i64 (a:=((((fab.jy.take (j+1)).map List.length).sum:Nat):Int)) V V;have G1:Good b (d.new (.blk 0 121 [.ref a 0 0,.ref a' 0 0])) g:=(G.guard.ext s.next s.low).new _;have e3:=aco G1 T;have p:H.next<=d.next:=s.next
   have sb:d.base=H.next:=s.base
   have h:d.base<=d.next:=V
   have⟨m,q⟩:=K (j+1) V _ (s.trans (Step.new (.blk 0 121 [.ref a 0 0,.ref a' 0 0]) p));refine⟨m,?_⟩;rw[aa5];simp only[Nat.reduceAdd,aI,xq_,hq_,n,v,w,h,e3,bM,h8,h9,L,M,q]
 have⟨m,q⟩:=key (2*fab.l.length) 0 V H.guard (Step.refl _ _);refine gY Z3 Z3 (asP _ _ _ (r:=(I fab.under,m)) ?_) iF;simp only[xq_,anH,A,C];exact q
end
section
variable {b:Nat}{H:ah}{g:bG}{A:Adr}{m:dh}
structure dh.fine(m:dh):Prop where
 ok:m.c.ok=true
 aF:(m.aF.length:Int)=m.c.aF
 fab:m.fab.l.length=m.aF.length
 ops:∀n∈m.aF,n.bU.ops.length<1000/\n.bU.bI.length<1000
 jy:∀l∈m.fab.jy,l.length<1000
 aO:∀n∈m.aF,n.aO.data.length<1000000000
 ins:∀p∈m.fab.l,p.rin.length<1000/\p.ain.length<1000
def acs(N:Nat->Nat->Nat)(n:Nat):(oW N n).length=n*1:=by simp[oW]
def acu {N:Nat->Nat->Nat}{n i:Nat}(h:i<n):(oW N n)[i]?=ZC (.ref (N i 0) 0 0):=by
 simp[oW,List.getElem?_range h]
end
def dn(v n:Int):Int:=if n<1 then 0 else v % n
def atM(l:Q Int)(i:Int):Int:=if i<l.length then l.getD i.toNat 0 else 0
def oI {v n:Int}(h:1<=n):0<=dn v n/\dn v n<n:=by
 unfold dn;rw[F V];exact⟨Int.emod_nonneg _ V,Int.emod_lt_of_pos _ V⟩
def afx(v n:Int)(h:1<=n):v % n=if v.tmod n<0 then v.tmod n+n else v.tmod n:=by
 have d:=Int.tmod_eq_emod (a:=v) (b:=n);have e:=Int.emod_nonneg v (b:=n) V;have g:=Int.emod_lt_of_pos v (b:=n) V;rw[d];rcases Decidable.em (0<=v∨n ∣ v)with hv|hv
 ·rw[y hv];split <;> omega
 ·rw[F hv];split <;> omega
def afy(v n:Int)(h:1<=n):-n<v.tmod n/\v.tmod n<n:=by
 have d:=Int.tmod_eq_emod (a:=v) (b:=n);have e:=Int.emod_nonneg v (b:=n) V;have g:=Int.emod_lt_of_pos v (b:=n) V;rw[d];rcases Decidable.em (0<=v∨n ∣ v)with hv|hv
 ·rw[y hv];omega
 ·rw[F hv];omega
def oQ(H:ah)(v n:Int)(i:n<=9223372036854775807):cl 50 [I v,I n] H=ZC (I (dn v n),H):=by
 refine bg W W (ata _ _ _ _ ?_);by_cases g:n<1
 ·simp only[xq_,ae9,g,dn]
 ·have h:=λ(k:IntKind) (t:XN)=>oq (P:=Tryz.prog) (k:=k) (t:=t) (a:=v) (b:=n) V;have d:=afx v n V;have j:=afy v n V;by_cases e:v.tmod n<0
  ·have w:=wrap_i64 (a:=v.tmod n+n) V V;rw[y e]at d;simp only[xq_,ae9,Oc,g,h,e,bM,w,dn,d]
  ·rw[F e]at d;simp only[xq_,ae9,Oc,g,h,e,dn,d]
def ak7(H:ah){x:AV}{l:Q Int}(d:aH H x 1 l.length (l.map I)){i:Int}(h0:0<=i):cl 75 [x,I i] H=ZC (I (atM l i),H):=by
 refine bg W W (atx _ _ _ _ ?_);have j:=d.lnS;by_cases h:i<l.length
 ·have n:=d.ix (k:=.i64) h0 h;have m:=d.ld (i:=i.toNat) V;have b:i.toNat<l.length:=V
  rw[List.getElem?_map,List.getElem?_eq_getElem b]at m;have g:ld (eH x i.toNat) H=ZC (I l[i.toNat],H):=m;have e:atM l i=l[i.toNat]:=by
   unfold atM;rw[y h,List.getD_eq_getElem?_getD,List.getElem?_eq_getElem b];rfl
  simp only[xq_,akE,j,h,n,g,e]
 ·simp only[xq_,akE,j,h,atM]
def aH.upto {H:ah}{x:AV}{m n:Nat}{cells:Q AV}(h:aH H x m n cells){k:IntKind}{hi:Int}(h0:0<=hi)(z:hi<=n):∃y,slS m x Z1 (ZC (.s (.int k hi))) Z1=ZC y/\aH H y m hi.toNat (cells.take (hi.toNat*m)):=by
 have⟨i,h⟩:=h;have e:hi.toNat*m<=n*m:=Nat.mul_le_mul_right _ V;cases x with
 |sl r g off d len o ex=>
  obtain⟨rfl,rfl,⟨p,hc⟩,q,all,u,j,w⟩:=h;refine⟨_,Wu h0 V,by rw[List.length_take,i];omega,W,W,⟨p,V⟩,q,all,u,V,?_⟩;rw[w,List.take_take,Nat.min_eq_left e]
 |vs k' d cs=>
  obtain⟨rfl,rfl,rfl⟩:=h;refine⟨.vs hi.toNat d (cs.take (hi.toNat*d)),?_,by rw[List.length_take,i];omega,W,W,W⟩;simp only[slS,jc,h0,zad];rw[YY ⟨zac,Nat.zero_le _,V⟩];simp
 |s v=>
  cases v with
  |slice a b c=>
   cases a with
   |none=>
    obtain⟨rfl,rfl,rfl⟩:=h;have j:hi=0:=V
    subst j;refine⟨zN,by simp[slS,jc],?_⟩;refine⟨?_,W,W,W⟩;simp
   |some a=>exact h.elim
  |_=>exact h.elim
 |_=>exact h.elim
def ak8(H:ah){x:AV}{l:Q Int}(g:aH H x 1 l.length (l.map I))(j:l.length<1000000000):cl 119 [x] H=ZC (dat l,H):=by
 by_cases b:l=[]
 ·subst b;have d:app 3 1 8 zN x H.guard=ZC (zN,H.guard):=by
   have⟨h,i⟩:=g.guard.wQ;simp only[app,h,i];rfl
  refine gY W W (ahZ _ _ _ (r:=(zN,H.guard)) ?_) (by rw[dat,gu];exact iF);simp only[xq_,abp,d]
 ·have d:=Un (e:=3) (by_:=8) g.guard (yh l) (λe=>b (List.eq_nil_of_length_eq_zero e)) (by unfold most;omega) (by unfold most;omega);refine gY W W (ahZ _ _ _ (r:=(.sl H.next 0 0 1 l.length l.length ZV,H.guard.new (.blk 0 (3+gW) (l.map I)))) ?_) (YN b (Nat.le_refl _) (aK W));simp only[xq_,abp,d]
def aqI(H:ah){x:AV}{l:Q Int}(d:aH H x 1 l.length (l.map I)){n:Int}(h0:0<=n)(m:n<1000000000):cl 74 [x,I n] H=ZC (dat (l.take n.toNat),H):=by
 refine bg W W (atw _ _ _ _ ?_);have e:=d.lnS;have⟨y,g,b⟩:=d.upto (k:=.i64) (hi:=min (l.length:Int) n) V V;have i:(min (l.length:Int) n).toNat=(l.take n.toNat).length:=by rw[List.length_take];omega
 rw[i,Nat.mul_one,<-List.map_take,List.length_take]at b;have hm:l.take (min n.toNat l.length)=l.take n.toNat:=by
  rcases Nat.le_total n.toNat l.length with h|h
  ·rw[Nat.min_eq_left h]
  ·rw[Nat.min_eq_right h,List.take_of_length_le (Nat.le_refl _),List.take_of_length_le h]
 rw[hm,<-List.length_take]at b;have j:=ak8 H b (by rw[List.length_take];omega);simp only[xq_,aoe,e,aam,g,j]
def kT.cfg(s:kT)(zi:Q Int):Cfg:=
 ⟨1+dn s.aF 4,1+dn s.aT 4,1+dn s.aP 2,1+dn s.sets 2,1+dn s.ways 2,1+dn s.out 3,1+dn s.inn 3,zi.take ((1+dn s.aT 4)*(1+dn s.aP 2)).toNat⟩
def xE {x:AV}{l:Q Int}(h:aH ah.empty x 1 l.length (l.map I))(H:ah):aH H x 1 l.length (l.map I):=
 h.iD (Nat.zero_le _) λr _ b=>absurd b (Nat.not_lt_zero r)
def iw(v:Int){n:Int}(h:1<=n)(b:n<=1000):1<=1+dn v n/\1+dn v n<=n/\IntKind.wrap .i64 (1+dn v n)=1+dn v n:=by
 have:=oI (v:=v) h;exact⟨V,V,wrap_i64 V V⟩
def ajp(s:kT)(zi:Q Int):(s.cfg zi).ok=true:=by
 have b:=iw s.aF (n:=4) V V;have d:=iw s.aT (n:=4) V V;have e:=iw s.aP (n:=2) V V;have g:=iw s.sets (n:=2) V V;have h:=iw s.ways (n:=2) V V;have i:=iw s.out (n:=3) V V;have j:=iw s.inn (n:=3) V V;have hm:0<=(1+dn s.aT 4)*(1+dn s.aP 2):=Int.mul_nonneg V V;simp only[Cfg.ok,kT.cfg,Bool.and_eq_true,List.length_take];have⟨k,w,_⟩:=b;have⟨m,y,_⟩:=d;have⟨o,A,_⟩:=e;have⟨p,C,_⟩:=g;have⟨q,D,_⟩:=h;have⟨u,E,_⟩:=i;have⟨v,F,_⟩:=j;generalize (1+dn s.aT 4)*(1+dn s.aP 2)=z at hm ⊢;exact⟨⟨⟨⟨⟨⟨⟨⟨zah k,zah V⟩,⟨zah m,zah V⟩⟩,⟨zah o,zah V⟩⟩,⟨zah p,zah V⟩⟩,⟨zah q,zah V⟩⟩,⟨zah u,zah V⟩⟩,⟨zah v,zah V⟩⟩,zah V⟩
def acv(c:Cfg):Frz 9 (.agg c.av):=mD λx b=>by
 simp only[Cfg.av,List.mem_cons,List.not_mem_nil,zan]at b;rcases b with rfl|rfl|rfl|rfl|rfl|rfl|rfl|rfl <;> first|exact fC|exact sV
def Rk(H:ah){s:kT}{zi zw zk za zv:Q Int}(h:s.Ok zi zw zk za zv)(hi:aH ah.empty s.init 1 zi.length (zi.map I))(hc:s.init.aU=Z0/\s.who.aU=Z0/\s.kinds.aU=Z0/\s.fG.aU=Z0/\s.bI.aU=Z0):
  cl 33 [.agg s.cells] H=ZC (.agg (s.cfg zi).av,H):=by
 refine bD W W (asW _ _ _) ?_ (acv _);have j:=iw s.aF (n:=4) V V;have m:=iw s.aT (n:=4) V V;have o:=iw s.aP (n:=2) V V;have p:=iw s.sets (n:=2) V V;have q:=iw s.ways (n:=2) V V;have u:=iw s.out (n:=3) V V;have y:=iw s.inn (n:=3) V V;have hm:0<=(1+dn s.aT 4)*(1+dn s.aP 2):=Int.mul_nonneg V V;have z:(1+dn s.aT 4)*(1+dn s.aP 2)<=4*2:=Int.mul_le_mul V V V V;have w:=wrap_i64 (a:=(1+dn s.aT 4)*(1+dn s.aP 2)) V V;have A:=λH v=>oQ H v 4 V;have C:=λH v=>oQ H v 2 V;have D:=λH v=>oQ H v 3 V;have E:=λH=>aqI H (xE hi H) hm V;have g:s.cells.all AV.aU=true:=by
  simp only[kT.cells,List.all_cons,List.all_nil,hc,Bool.and_true];rfl
 simp only[kT.cells]at g;have ev:∀a b c d e f k:Int,bd 31 [(0,I a),(1,I b),(2,I c),(3,I d),(4,I e),(5,I f),(6,I k)]=ZC (.agg [I a,I b,I c,I d,I e,I f,I k,zN]):=λ_ _ _ _ _ _ _=>by
  simp only[xq_,amP,jf,fO,aj7];rfl
 have F:zN.cells=[zN]:=rfl;have i:zN.aU=true:=rfl;simp only[Nat.reduceLT,Nat.reduceAdd,aI,xq_,hq_,anO,aC g,kT.cells,A,C,D,bM,j,m,o,p,q,u,y,ev,iP,w,E,i];rfl
def oZ(z:Int):Int:=[1,2,3,1,2,1,4].getD (dn z 7).toNat 0
def acw(c:Cfg)(zk za zv:Q Int)(i:Nat):Opn:=
 ⟨oZ (atM zk i),dn (atM za i) (c.aT*c.aP),if oZ (atM zk i)=2∨oZ (atM zk i)=3 then atM zv i else 0⟩
def jC(c:Cfg)(zw zk za zv:Q Int)(ps:Q (Q Opn))(i:Nat):Q (Q Opn):=
 let n:=(dn (atM zw i) c.aF).toNat
 if(ps.getD n []).length<24 then ps.set n (ps.getD n []++[acw c zk za zv i])else ps
def mG(c:Cfg)(zw zk za zv:Q Int):Nat->Q (Q Opn)
 |0=>List.replicate c.aF.toNat []
 |i+1=>jC c zw zk za zv (mG c zw zk za zv i) i
def pJ(c:Cfg)(zw zk za zv:Q Int)(most:Nat):Q (Q Opn):=mG c zw zk za zv (min zw.length most)
def Rl(ps:Q (Q Opn)):Q Cell:=ps.map λl=>.seq 3 (l.flatMap Opn.av)
def qQ(c:Cfg)(zw zk za zv:Q Int):∀i,(mG c zw zk za zv i).length=c.aF.toNat
 |0=>by simp[mG]
 |i+1=>by
  simp only[mG,jC];split
  ·rw[List.length_set,qQ c zw zk za zv i]
  ·exact qQ c zw zk za zv i
def acy {H:ah}{r n j:Nat}{ty:XN}{xs:Q AV}(b:H.get r=.blk 0 ty xs)(h:j<n){k:IntKind}:ix 1 (.sl r 0 0 1 n n Z0) (.s (.int k j)) H=ZC (.ref r 0 j,H):=by
 have d:(0:Int)<=j/\(j:Int)<n:=V
 simp[ix,kV,ixO,h,bT,b,arI,gG.gen]
def YO(z:Int):oZ z=1∨oZ z=2∨oZ z=3∨oZ z=4:=by
 have h:=oI (v:=z) (n:=7) V;unfold oZ;generalize hk:(dn z 7).toNat=k;have:k<7:=V
 match k,this with
 |0,_|1,_|2,_|3,_|4,_|5,_|6,_=>simp
def Xw {ps:Q (Q Opn)}{j:Nat}(h:j<ps.length):(Rl ps)[j]?=ZC (.seq 3 ((ps.getD j []).flatMap Opn.av)):=by
 simp[Rl,List.getD_eq_getElem?_getD,List.getElem?_eq_getElem h]
def afz {ps:Q (Q Opn)}{j:Nat}{l:Q Opn}:(Rl ps).set j (.seq 3 (l.flatMap Opn.av))=Rl (ps.set j l):=by
 simp[Rl,List.map_set]
section
variable {H:ah}{s:kT}{zi zw zk za zv:List Int}
def U2 {C:aA}(hCa:C 75=cl 75)(hCw:C 50=cl 50)(h:s.Ok zi zw zk za zv)(hi:aH ah.empty s.init 1 zi.length (zi.map I))(hw:aH ah.empty s.who 1 zw.length (zw.map I))(hk:aH ah.empty s.kinds 1 zk.length (zk.map I))(ha:aH ah.empty s.fG 1 za.length (za.map I))(hv:aH ah.empty s.bI 1 zv.length (zv.map I))
  {c:Cfg} (hc:c.ok=Z0) {p q r n:Nat} {ty ty':XN} (hp:p<H.next) (hq:q<H.next) (gp:H.get p=.blk 0 ty s.cells) (gq:H.get q=.blk 0 ty' c.av) {b:Nat} {ps:Q (Q Opn)} (G:Good b H (upd lH r (Rl ps))) (hb:H.base<=b) (hn:ps.length=n) (hnc:(n:Int)=c.aF)
  {i:Nat} {mo:Int} (him:(i:Int)<mo) (hm:mo<=1000) (hil:i<zw.length) (hz:∀j,j<n->ps.getD j []=[]->ld (.ref r 0 j) H=ZC (zN,H)):
  ∃H',zO C [I mo,.ref p 0 0,.ref q 0 0,.sl r 0 0 1 n n Z0,I i] H=zO C [I mo,.ref p 0 0,.ref q 0 0,.sl r 0 0 1 n n Z0,I (i+1:Nat)] H'/\Good b H' (upd lH r (Rl (jC c zw zk za zv ps i)))/\Step b H H'/\(∀j,j<n->(jC c zw zk za zv ps i).getD j []=[]->ld (.ref r 0 j) H'=ZC (zN,H')):=by
 have Bd:=qp hc;have e8:ld (.ref p 0 8) H=ZC (s.who,H):=by rw[dG gp];rfl
 have e9:ld (.ref p 0 9) H=ZC (s.kinds,H):=by rw[dG gp];rfl
 have e10:ld (.ref p 0 10) H=ZC (s.fG,H):=by rw[dG gp];rfl
 have e11:ld (.ref p 0 11) H=ZC (s.bI,H):=by rw[dG gp];rfl
 have f0:ld (.ref q 0 0) H=ZC (I c.aF,H):=by rw[dG gq];rfl
 have f1:ld (.ref q 0 1) H=ZC (I c.aT,H):=by rw[dG gq];rfl
 have f2:ld (.ref q 0 2) H=ZC (I c.aP,H):=by rw[dG gq];rfl
 have w0:=λH=>(xE hw H).lnS;have h1:(i:Int)<zw.length:=by omega
 have a1:=λH=>ak7 H (xE hk H) (i:=(i:Int)) (by omega);have a2:=λH=>ak7 H (xE ha H) (i:=(i:Int)) (by omega);have a3:=λH=>ak7 H (xE hv H) (i:=(i:Int)) (by omega);have k1:=λH v=>oQ H v 7 (by omega);have hlw:=Bd.fG;have w:=wrap_i64 (a:=c.aT*c.aP) (by omega) (by omega);have k2:=λH v=>oQ H v (c.aT*c.aP) (by omega);have k3:=λH v=>oQ H v c.aF (by have:=Bd.aF;omega);rw[<-hCa]at a1 a2 a3;rw[<-hCw]at k1 k2 k3;have eb7:∀H,bs 22 7 [(0,I 1),(1,I 2),(2,I 3),(3,I 1),(4,I 2),(5,I 1),(6,I 4)] H=ZC (.sl H.next 0 0 1 7 7 Z0,H.new (.blk 0 3 [I 1,I 2,I 3,I 1,I 2,I 1,I 4])):=λH=>
  (ND (by decide)).trans W
 let b7:gG:=.blk 0 3 [I 1,I 2,I 3,I 1,I 2,I 1,I 4];let Hc:=(H.new b7).new (.blk 0 61 [zI,zI,zI]);have hK:=oI (v:=atM zk i) (n:=7) (by omega);have s7:aH Hc (.sl H.next 0 0 1 7 7 Z0) 1 7 [I 1,I 2,I 3,I 1,I 2,I 1,I 4]:=(jZ (n:=7) (m:=1) W).new _;have i7:=s7.ix (k:=.i64) hK.1 hK.2;have l7:=s7.ld (i:=(dn (atM zk i) 7).toNat) (by omega);have l7':ld (eH (.sl H.next 0 0 1 7 7 Z0) (dn (atM zk i) 7).toNat) Hc=ZC (I (oZ (atM zk i)),Hc):=by
  rw[l7];unfold oZ;generalize hk':(dn (atM zk i) 7).toNat=kk;have:kk<7:=by omega
  match kk,this with
  |0,_|1,_|2,_|3,_|4,_|5,_|6,_=>rfl
 have⟨o,ho⟩:∃o:Opn,o=acw c zk za zv i:=⟨_,W⟩
 let Hd:=(H.new b7).new (.blk 0 61 o.av);have hcn:=oI (v:=atM zw i) (n:=c.aF) (by have:=Bd.aF;omega);have⟨j,hj⟩:∃j:Nat,dn (atM zw i) c.aF=j:=⟨(dn (atM zw i) c.aF).toNat,by omega⟩
 have hjn:j<n:=by omega
 have wi:=λH=>(xE hw H).ix (k:=.i64) (i:=(i:Int)) (by omega) h1;have wl:∀H,ld (eH s.who (i:Int).toNat) H=ZC (I (atM zw i),H):=λH=>by
  rw[Int.toNat_natCast,(xE hw H).ld hil,List.getElem?_map,List.getElem?_eq_getElem hil];unfold atM;rw[y h1,Int.toNat_natCast,List.getD_eq_getElem?_getD,List.getElem?_eq_getElem hil];rfl
 have G1:Good b Hd (upd lH r (Rl ps)):=(G.new _).new _;have og:=Xw (ps:=ps) (j:=j) (by omega);have⟨x,hx,cu⟩:=G1.seq aQ og;have hlen:=(cu.is (by decide) (dF eG _)).lnS;have hg:∃ty xs,Hd.get r=.blk 0 ty xs:=by
  have⟨_,τ,hR⟩:=G1;have⟨ty,xs,hg,_⟩:=(hR r _ aQ).blk;exact⟨ty,xs,hg⟩
 have⟨rty,rxs,hg⟩:=hg;have ix1:=acy (k:=.i64) hg hjn;have h6:(i:Int)+1=((i+1:Nat):Int):=by omega
 have h7:=wrap_i64 (a:=((i+1:Nat):Int)) (by omega) (by omega);have f0':ld (.ref q 0 0) Hd=ZC (I c.aF,Hd):=by
  simp only[Hd];rw[D7 (by rw[eu];omega),D7 hq,f0];rfl
 have e8':ld (.ref p 0 8) Hd=ZC (s.who,Hd):=by
  simp only[Hd];rw[D7 (by rw[eu];omega),D7 hp,e8];rfl
 have hzd:∀j,j<n->ps.getD j []=[]->ld (.ref r 0 j) Hd=ZC (zN,Hd):=λj' h1 h2=>by
  simp only[Hd];rw[D7 (by rw[eu];have:=G.lt aQ;omega),D7 (G.lt aQ),hz j' h1 h2];rfl
 have sd:Step b H Hd:=(Step.new _ G.1).trans (Step.new _ (G.new _).1);have tail:∃H',IV C (I mo) (.ref p 0 0) (.ref q 0 0) (.sl r 0 0 1 n n Z0) (I i) (.ref (H.next+1) 0 0) Hd=zO C [I mo,.ref p 0 0,.ref q 0 0,.sl r 0 0 1 n n Z0,I (i+1:Nat)] H'/\Good b H' (upd lH r (Rl (jC c zw zk za zv ps i)))/\Step b H H'/\(∀j,j<n->(jC c zw zk za zv ps i).getD j []=[]->ld (.ref r 0 j) H'=ZC (zN,H')):=by
  by_cases hl:(ps.getD j []).length<24
  ·have hl':((ps.getD j []).length:Int)<24:=by omega
   have⟨x',Hf,t1,fit,n1,b1,k1'⟩:=(cu.new (.blk 0 61 o.av)).app (e:=61) (by_:=24) (by rw[iO];exact hb) (by decide) (dF eG _) (jZ (ex:=Z0) (n:=1) (m:=3) (l:=o.av) W) (mg o) (by unfold most;omega) (by unfold most;omega);have hrl:r<Hd.next:=G1.lt aQ
   have hxr:iH x≠ZC r:=by
    rcases cu.own with⟨rfl,_⟩|⟨r',gg,off,n',cap,ex,ty2,all,rfl,kr,_⟩
    ·intro e;cases e
    ·intro e;simp only[iH,Option.some.injEq]at e;exact kr e
   have hgf:Hf.get r=.blk 0 rty rxs:=by
    rw[k1' r (by rw[eu];omega) hxr,aZ hrl,hg]
   have ix2:=acy (k:=.i64) hgf hjn;have⟨Hg,t2,G2,s2,n2⟩:=(G1.new (.blk 0 61 o.av)).seat aQ og (cu.new _) n1 (by rw[b1,iO];exact hb) k1' fit;have hfs:Step b (Hd.new (.blk 0 61 o.av)) Hf:=⟨b1,n1,λr' hr'=>k1' r' (by have:=G1.1;rw[eu];omega) (cu.low hr')⟩
   refine⟨Hg,?_,?_,((sd.trans (Step.new _ G1.1)).trans hfs).trans s2,?_⟩
   ·have ldo:lda 3 (.ref (H.next+1) 0 0) Hd=ZC (.agg o.av,Hd):=(iE (off:=0) (n:=3) (xs:=o.av) (aK (by rw[eu])) (Nat.le_refl 3)).trans W;have eb:=jE (e:=61) (m:=3) (z:=[zI,zI,zI]) (v:=.agg o.av) (H:=Hd) W W (mg o);simp only[eU]at eb;simp only[xq_,IV,Oa,e8',wi,wl,f0',k3,hj,ix1,hx,hlen,hl',ldo,aj6,Nat.one_mul,Nat.reduceLeDiff,eb,t1,ix2,t2,bM,h6,h7]
   ·rw[pz]at G2;have e:jC c zw zk za zv ps i=ps.set j (ps.getD j []++[o]):=by
     simp only[jC,hj,Int.toNat_natCast];rw[y hl,ho]
    rw[e,<-afz,List.flatMap_append,List.flatMap_cons,List.flatMap_nil,List.append_nil];exact G2
   ·have e:jC c zw zk za zv ps i=ps.set j (ps.getD j []++[o]):=by
     simp only[jC,hj,Int.toNat_natCast];rw[y hl,ho]
    intro j' hj' hem;rw[e]at hem;have hne:j'≠j:=λe'=>by
     subst e';rw[List.getD_eq_getElem?_getD,List.getElem?_set_self (by omega)]at hem;simp at hem
    have avH:ps.getD j' []=[]:=by
     rw[List.getD_eq_getElem?_getD,List.getElem?_set_ne (by omega)]at hem;rw[List.getD_eq_getElem?_getD];exact hem
    have l0:=hzd j' hj' avH;rw[dG hg]at l0;have hxj:rxs[j']?=ZC zN:=by
     cases hx':rxs[j']? with
     |none=>rw[hx']at l0;cases l0
     |some v=>rw[hx']at l0;simp only[Option.map_some,Option.some.injEq,zaa]at l0;rw[l0.1]
    rw[NH]at t2;simp only[hgf]at t2;split at t2
    ·rename_i hc';simp only[Option.some.injEq,zaa,zaD]at t2;subst t2;have⟨_,_,hx1,_,hx5⟩:=hc';rw[dG (Io),nC hx5,F (by omega),hxj];rfl
    ·cases t2
  ·have hl':¬((ps.getD j []).length:Int)<24:=by omega
   refine⟨Hd,?_,?_,sd,?_⟩
   ·simp only[xq_,IV,Oa,e8',wi,wl,f0',k3,hj,ix1,hx,hlen,hl',bM,h6,h7]
   ·have e:jC c zw zk za zv ps i=ps:=by
     simp only[jC,hj,Int.toNat_natCast];rw[F hl]
    rw[e];exact G1
   ·have e:jC c zw zk za zv ps i=ps:=by
     simp only[jC,hj,Int.toNat_natCast];rw[F hl]
    rw[e];exact hzd
 have⟨H',t1,t2⟩:=tail;refine⟨H',?_,t2⟩;simp only[Hd,Hc,b7]at t1 i7 l7';have hb0:H.base<=H.next:=Nat.le_trans hb G.1
 have hb1:H.base<=H.next+1:=by omega
 rw[aa9,<-t1,ho];by_cases c2:oZ (atM zk i)=2
 ·have oe:(acw c zk za zv i).av=[I (oZ (atM zk i)),I (dn (atM za i) (c.aT*c.aP)),I (atM zv i)]:=by simp[acw,Opn.av,c2]
  simp only[Nat.reduceAdd,aI,xq_,hq_,hp,hq,e8,e9,e10,e11,f1,f2,w0,h1,him,eb7,a1,a2,a3,k1,k2,i7,l7',iP,w,aeO,jf,fO,aeN,hb1,c2,oe]
 ·by_cases c3:oZ (atM zk i)=3
  ·have oe:(acw c zk za zv i).av=[I (oZ (atM zk i)),I (dn (atM za i) (c.aT*c.aP)),I (atM zv i)]:=by simp[acw,Opn.av,c3]
   simp only[Int.reduceEq,Nat.reduceAdd,aI,xq_,hq_,hp,hq,e8,e9,e10,e11,f1,f2,w0,h1,him,eb7,a1,a2,a3,k1,k2,i7,l7',iP,w,aeO,jf,fO,aeN,hb1,c3,oe]
  ·have oe:(acw c zk za zv i).av=[I (oZ (atM zk i)),I (dn (atM za i) (c.aT*c.aP)),I 0]:=by simp[acw,Opn.av,c2,c3]
   simp only[Nat.reduceAdd,aI,xq_,hq_,hp,hq,e8,e9,e10,e11,f1,f2,w0,h1,him,eb7,a1,a2,a3,k1,k2,i7,l7',iP,w,aeO,jf,fO,aeN,hb1,c2,c3,oe]
end
def acz {α β:Type}{f:α->M β}:∀(xs:Q α) (ys:Q β),xs.length=ys.length->(∀(i:Nat) x y,xs[i]?=ZC x->ys[i]?=ZC y->f x=ZC y)->xs.mapM f=ZC ys
 |[],[],_,_=>rfl
 |x::xs,y::ys,d,h=>by
  have e:=h 0 x y W W;have:=acz (f:=f) xs ys (by simpa using d) λi a b ha hb=>h (i+1) a b ha hb;rw[List.mapM_cons,e,this];rfl
 |[],_::_,d,_=>by simp at d
 |_::_,[],d,_=>by simp at d
def YP {b r n sN:Nat}{H:ah}{ps:Z2 (Z2 Opn)}(G:Good b H (upd lH r (Rl ps)))(R:sN<=b)(A:ps.length=n)(E:∀j,j<n->ps.getD j []=[]->ld (.ref r 0 j) H=ZC (zN,H)):
  bV H sN 9 (.sl r 0 0 1 n n Z0)=ZC (.vs n 1 (ps.map (vsl 3 Opn.av))):=by
 have d:∃p xs,H.get r=.blk 0 p xs/\xs.length=n:=by
  have⟨_,τ,F⟩:=G;have⟨p,xs,d,v,_⟩:=(F r _ aQ).blk;exact⟨p,xs,d,by rw[v];simp[Rl,A]⟩
 have⟨p,xs,d,v⟩:=d;have K:b<=r:=G.le aQ;refine kS V (cells:=xs) ?_ (acz _ _ (by rw[v,List.length_map,A]) λi x y C q=>?_)
 ·simp only[cZ,d];rw[YY ⟨zac,V⟩,List.drop_zero,List.take_of_length_le V]
 ·rw[List.getElem?_map,Option.map_eq_some_iff]at q;obtain⟨l,h,rfl⟩:=q;have hi:i<n:=by have:=(List.getElem?_eq_some_iff.1 h).1;omega
  have k:ps.getD i []=l:=by rw[List.getD_eq_getElem?_getD,h];rfl
  by_cases u:l=[]
  ·have e:=E i hi (by rw[k,u]);rw[dG d,C]at e;simp only[Option.map_some,Option.some.injEq,zaa,zau]at e;rw[e,u,gu];exact iF
  ·have⟨T,g,w⟩:=G.seq aQ (Xw (ps:=ps) (j:=i) V);rw[dG d,C]at g;simp only[Option.map_some,Option.some.injEq,zaa,zau]at g;subst g;rw[k]at w;have m:=w.is J (dF eG l);have⟨W,L⟩:=m.wQ;rcases w.own with⟨_,e⟩|⟨r',gg,off,n',M,ex,Q,all,rfl,kr,X,_⟩
   ·have:=zaj List.length e;rw[dF eG]at this;simp only[List.length_nil]at this;exact absurd (List.eq_nil_of_length_eq_zero V) u
   ·have z:n'=l.length:=m.2.2.1;subst z;rw[EZ u];refine kS V L (iM _ λy q=>?_);have⟨o,_,D⟩:=List.mem_flatMap.1 q;simp only[Opn.av,List.mem_cons,List.not_mem_nil,zan]at D;rcases D with rfl|rfl|rfl <;> exact iF
def afA(H:ah)(ps:Q (Q Opn)):OG H (.vs ps.length 1 (ps.map (vsl 3 Opn.av))) ps:=
 ⟨_,aH.vs O,λi v l b d=>by
  rw[List.getElem?_map,d]at b;cases b;exact⟨Ig eG H l,λh=>by rw[h,gu]⟩⟩
section
variable {H:ah}{s:kT}{zi zw zk za zv:List Int}
def Rn {C:aA}(hCa:C 75=cl 75)(hCw:C 50=cl 50)(hCc:C 33=cl 33)(H:ah)(hbn:H.base<=H.next)(h:s.Ok zi zw zk za zv)(hi:aH ah.empty s.init 1 zi.length (zi.map I))(hw:aH ah.empty s.who 1 zw.length (zw.map I))(hk:aH ah.empty s.kinds 1 zk.length (zk.map I))(ha:aH ah.empty s.fG 1 za.length (za.map I))(hv:aH ah.empty s.bI 1 zv.length (zv.map I))
  (hc:s.init.aU=Z0/\s.who.aU=Z0/\s.kinds.aU=Z0/\s.fG.aU=Z0/\s.bI.aU=Z0) {mo:Nat} (hm:mo<=1000):
  ∃Hz r,r=H.next+2/\aku C (.agg s.cells) (I mo) H=ZC (.sl r 0 0 1 (s.cfg zi).aF.toNat (s.cfg zi).aF.toNat Z0,Hz)/\Good (H.next+2) Hz (upd lH r (Rl (pJ (s.cfg zi) zw zk za zv mo)))/\Step H.next H Hz/\(∀j,j<(s.cfg zi).aF.toNat->(pJ (s.cfg zi) zw zk za zv mo).getD j []=[]->ld (.ref r 0 j) Hz=ZC (zN,Hz)):=by
 let c:=s.cfg zi;have hck:c.ok=true:=ajp s zi;have Bd:=qp hck;let n:=c.aF.toNat;let H1:=H.new (.blk 0 24 s.cells);let H2:=H1.new (.blk 0 31 c.av);let H3:=H2.new (.blk 0 62 (dM [zN] n));let r:=H.next+2
 have hall:s.cells.all AV.aU=true:=by
  simp only[kT.cells,List.all_cons,List.all_nil,hc,Bool.and_true];rfl
 have M0:Made H2 H3 (upd lH r (Rl (mG c zw zk za zv 0))):=by
  refine kP ?_ ?_ λi cc x hcc hx=>?_
  ·rw[kG];simp;right;rfl
  ·rw[kG];simp[Rl,mG,n]
  ·rw[kG,List.getElem?_replicate]at hx;simp only[Rl,mG,List.map_replicate,List.getElem?_replicate]at hcc;by_cases hin:i<n
   ·rw[y hin]at hx hcc;simp only[Option.some.injEq]at hx hcc;subst hx;subst hcc;exact .inr ⟨W,3,W⟩
   ·rw[F hin]at hx;cases hx
 have gp:H2.get H.next=.blk 0 24 s.cells:=by
  simp only[H2];rw[aZ (by simp only[H1,eu];omega)];exact aK W
 have gq:H2.get (H.next+1)=.blk 0 31 c.av:=aK W;have b2:H2.base=H.base:=rfl;have n2:H2.next=H.next+2:=rfl
 have key:∀k i,i+k=min zw.length mo->∀Hi,Good H2.next Hi (upd lH r (Rl (mG c zw zk za zv i)))->Step H2.next H2 Hi->(∀j,j<n->(mG c zw zk za zv i).getD j []=[]->ld (.ref r 0 j) Hi=ZC (zN,Hi))->
   ∃Hz,Step H2.next H2 Hz/\zO C [I mo,.ref H.next 0 0,.ref (H.next+1) 0 0,.sl r 0 0 1 n n Z0,I i] Hi=ZC (.sl r 0 0 1 n n Z0,Hz)/\Good H2.next Hz (upd lH r (Rl (pJ c zw zk za zv mo)))/\(∀j,j<n->(pJ c zw zk za zv mo).getD j []=[]->ld (.ref r 0 j) Hz=ZC (zN,Hz)):=by
  intro k
  induction k with
  |zero=>
   intro i hik Hi G st hz;have e8:ld (.ref H.next 0 8) Hi=ZC (s.who,Hi):=by rw[dG (by rw[st.low _ (by omega)];exact gp)];rfl
   have w0:=λH=>(xE hw H).lnS;have hi':min zw.length mo=i:=by omega
   refine⟨Hi,st,?_,by rw[pJ,hi'];exact G,by rw[pJ,hi'];exact hz⟩;rw[aa9];by_cases h1:(i:Int)<zw.length
   ·have h2:¬(i:Int)<mo:=by omega
    simp only[xq_,e8,w0,h1,h2]
   ·simp only[xq_,e8,w0,h1]
  |succ k ih=>
   intro i hik Hi G st hz;have⟨H',t1,t2,t3,t4⟩:=U2 hCa hCw h hi hw hk ha hv hck (p:=H.next) (q:=H.next+1) (r:=r) (n:=n) (by have:=st.next;omega) (by have:=st.next;omega) (by rw[st.low _ (by omega)];exact gp) (by rw[st.low _ (by omega)];exact gq) G (by rw[st.base,b2,n2];omega) (qQ _ _ _ _ _ _) (by have:=Bd.aF;omega) (i:=i) (mo:=mo) (by omega) (by omega) (by omega) hz;rw[t1];exact ih (i+1) (by omega) H' t2 (st.trans t3) t4
 have g3:H3.get r=.blk 0 62 (dM [zN] n):=aK n2.symm;have⟨Hz,r0,r1,r2,r3⟩:=key (min zw.length mo) 0 (by omega) H3 M0.good (Step.new _ (Nat.le_refl _)) (λj hj _=>by
  rw[dG g3,kG,List.getElem?_replicate,y hj];rfl)
 have hs:Step H.next H Hz:=(Step.new _ (Nat.le_refl _)).trans ((Step.new _ (Nat.le_succ _)).trans ⟨r0.base,r0.next,λr hr=>r0.low r (by omega)⟩)
 refine⟨Hz,r,W,?_,r2,hs,r3⟩;have e1:=λH=>Rk H h hi hc;rw[<-hCc]at e1;have hn:=Bd.aF;have e2:=Wx (e:=62) (m:=1) (by_:=24) (z:=[zN]) (n:=c.aF) (H:=H2) W W (by omega) (by omega) (by decide);have ls:s.cells.length=12:=rfl;have lt:s.cells.take 12=s.cells:=rfl;have l0:c.av[0]?=ZC (I c.aF):=rfl;have cc:(AV.agg c.av).cells=c.av:=rfl;have lc:c.av.length=8:=rfl;rw[n2]at e2;simp only[H2,H1]at e2;have hnn:c.aF.toNat=n:=rfl;rw[hnn]at e2;simp only[c]at e2 l0;have hb1:H.base<=H.next+1:=by omega
 simp only[Nat.reduceLT,Nat.reduceAdd,aI,xq_,hq_,aku,aC hall,ls,lt,e1,l0,e2,hb1];exact r1
def U3(H:ah)(h:s.Ok zi zw zk za zv)(hi:aH ah.empty s.init 1 zi.length (zi.map I))(hw:aH ah.empty s.who 1 zw.length (zw.map I))(hk:aH ah.empty s.kinds 1 zk.length (zk.map I))(ha:aH ah.empty s.fG 1 za.length (za.map I))(hv:aH ah.empty s.bI 1 zv.length (zv.map I))
  (hc:s.init.aU=Z0/\s.who.aU=Z0/\s.kinds.aU=Z0/\s.fG.aU=Z0/\s.bI.aU=Z0) {mo:Nat} (hm:mo<=1000):
  ∃ps,ps=pJ (s.cfg zi) zw zk za zv mo/\cl 34 [.agg s.cells,I mo] H=ZC (.vs ps.length 1 (ps.map (vsl 3 Opn.av)),H):=by
 refine⟨_,W,?_⟩;have⟨Hz,r,hr,e,G,st,hz⟩:=Rn (C:=cl) W W W H.guard (Nat.le_refl _) h hi hw hk ha hv hc hm;have hlen:(pJ (s.cfg zi) zw zk za zv mo).length=(s.cfg zi).aF.toNat:=qQ _ _ _ _ _ _;have fz:=YP (sN:=H.next) G (by simp only[wU];omega) hlen hz;exact gY W W (asX _ _ _ _ e) (by rw[fz,hlen])
end
def Dq(c:Cfg)(zw zk za zv:Q Int):∀i,∀l∈mG c zw zk za zv i,l.length<=24
 |0,l,h=>by
  rw[List.eq_of_mem_replicate h];decide
 |i+1,l,h=>by
  simp only[mG,jC]at h;split at h
  ·rename_i b;rcases List.mem_or_eq_of_mem_set h with h|rfl
   ·exact Dq c zw zk za zv i l h
   ·rw[List.length_append];simp only[List.length_cons,List.length_nil];omega
  ·exact Dq c zw zk za zv i l h
def YQ(H:ah)(n m:Int):cl 120 [I n,I m] H=ZC (B (ku n m),H):=by
 refine bD W W (aoF _ _ _ _) ?_ fC;by_cases h:1<=n
 ·simp only[xq_,abq,h,ku,Bool.true_and]
 ·simp only[xq_,abq,h,ku,Bool.false_and]
def atZ {c:Cfg}(b:ku c.aT 8=Z0)(d:ku c.aP 4=Z0):IntKind.wrap .i64 (c.aT*c.aP)=c.aT*c.aP:=by
 simp only[ku,Bool.and_eq_true,zab]at b d;have:c.aT*c.aP<=8*4:=Int.mul_le_mul b.2 d.2 V V;have:0<=c.aT*c.aP:=Int.mul_nonneg V V;exact wrap_i64 V V
def acA(H:ah)(c:Cfg):cl 76 [.agg c.av] H=ZC (B c.ok,H):=by
 refine bD W W (aty _ _ _) ?_ fC;have w:=λH n m=>YQ H n m;have k:=λH=>(gJ H c.init).lnS;cases b:ku c.aF 6
 ·simp only[Nat.reduceLT,xq_,hq_,Oi,aC,Cfg.av,Cfg.ok,w,b,Bool.false_and]
 cases d:ku c.aT 8
 ·simp only[Nat.reduceLT,xq_,hq_,Oi,aC,Cfg.av,Cfg.ok,w,b,d,Bool.false_and,Bool.true_and]
 cases e:ku c.aP 4
 ·simp only[Nat.reduceLT,xq_,hq_,Oi,aC,Cfg.av,Cfg.ok,w,b,d,e,Bool.false_and,Bool.true_and]
 cases g:ku c.sets 4
 ·simp only[Nat.reduceLT,xq_,hq_,Oi,aC,Cfg.av,Cfg.ok,w,b,d,e,g,Bool.false_and,Bool.true_and]
 cases h:ku c.ways 3
 ·simp only[Nat.reduceLT,xq_,hq_,Oi,aC,Cfg.av,Cfg.ok,w,b,d,e,g,h,Bool.false_and,Bool.true_and]
 cases i:ku c.out 8
 ·simp only[Nat.reduceLT,xq_,hq_,Oi,aC,Cfg.av,Cfg.ok,w,b,d,e,g,h,i,Bool.false_and,Bool.true_and]
 cases j:ku c.inn 8
 ·simp only[Nat.reduceLT,xq_,hq_,Oi,aC,Cfg.av,Cfg.ok,w,b,d,e,g,h,i,j,Bool.false_and,Bool.true_and]
 have hm:=atZ d e;simp only[Nat.reduceLT,xq_,hq_,Oi,aC,Cfg.av,Cfg.ok,w,b,d,e,g,h,i,j,k,iP,hm,Bool.true_and]
def acB {c:Cfg}(h:c.ok=Z0)(a:Int):u (c.bZ a≠-1)=(u (0<=a) && u (a<c.aT*c.aP)):=by
 have e:=qp h;have hw:=e.aP;by_cases b:0<=a
 ·by_cases d:a<c.aT*c.aP
  ·have:0<=a / c.aP:=Int.ediv_nonneg b V;have:¬(a<0∨c.aT*c.aP<=a):=V
   simp only[Cfg.bZ,Cfg.fG,this,zaf,b,d,zax,Bool.and_self,zab];omega
  ·have:a<0∨c.aT*c.aP<=a:=V
   simp[Cfg.bZ,Cfg.fG,this,d]
 ·have:a<0∨c.aT*c.aP<=a:=V
  simp[Cfg.bZ,Cfg.fG,this,b]
def U4(H:ah)(c:Cfg)(h:c.ok=Z0)(o:Opn):cl 121 [.agg c.av,.agg o.av] H=ZC (B (c.right o),H):=by
 refine bD W W (aoG _ _ _ _) ?_ fC;have n:=acB h o.addr;have m:=qp h;have hm:=wrap_i64 (a:=c.aT*c.aP) (by have:=m.fG;omega) (by have:=m.fG;omega);rw[Cfg.right,n];have j:c.av[1]?=ZC (I c.aT):=rfl;have k:c.av[2]?=ZC (I c.aP):=rfl;by_cases a:1<=o.aW;rotate_left
 ·simp only[Nat.reduceLT,xq_,hq_,Ba,aC,Opn.av,a,Bool.false_and]
 by_cases b:o.aW<=4;rotate_left
 ·simp only[Nat.reduceLT,xq_,hq_,Ba,aC,Opn.av,a,b,Bool.false_and,Bool.true_and]
 by_cases d:0<=o.addr;rotate_left
 ·simp only[Nat.reduceLT,xq_,hq_,Ba,aC,Opn.av,a,b,d,Bool.false_and,Bool.true_and]
 by_cases e:o.addr<c.aT*c.aP;rotate_left
 ·simp only[Nat.reduceLT,xq_,hq_,Ba,aC,Opn.av,j,k,a,b,d,e,iP,hm,Bool.false_and,Bool.true_and]
 by_cases f:o.value=0
 ·simp only[Nat.reduceLT,xq_,hq_,Ba,aC,Opn.av,j,k,a,b,d,e,f,iP,hm,Bool.true_or]
 by_cases g:o.aW=2
 ·simp only[Nat.reduceLT,Int.reduceLE,Int.reduceEq,xq_,hq_,Ba,aC,Opn.av,j,k,d,e,f,g,iP,hm,Bool.true_or,Bool.false_or]
 by_cases i:o.aW=3
 ·simp only[Nat.reduceLT,Int.reduceLE,Int.reduceEq,xq_,hq_,Ba,aC,Opn.av,j,k,d,e,f,i,iP,hm,Bool.false_or]
 ·simp only[Nat.reduceLT,xq_,hq_,Ba,aC,Opn.av,j,k,a,b,d,e,f,g,i,iP,hm,Bool.true_and,Bool.false_or]
def ajq(c:Cfg)(l:Q Opn):Bool:=u (l.length<=24) && l.all c.right
def ak9(H:ah)(c:Cfg)(h:c.ok=Z0){x:AV}{ps:Q (Q Opn)}(hx:OG H x ps)(hn:ps.length<1000000000)(hl:∀l∈ps,l.length<1000000000):cl 77 [.agg c.av,x] H=ZC (B (c.nR ps),H):=by
 refine bD W W (atz _ _ _ _) ?_ fC;let H0:=H.guard.new (.blk 0 31 c.av);have n0:H0.next=H.next+1:=rfl
 have hx1:=hx.iD (H':=H0) (by rw[n0];omega) λr hr=>by simp only[H0];rw[aZ (by rw[wU];exact hr),ad9]
 -- what a memory is that has gone on from there
 have keep:∀{H1:ah},H0.next<=H1.next->(∀r,r<H0.next->H1.get r=H0.get r)->OG H1 x ps/\lda 8 (.ref H.next 0 0) H1=ZC (.agg c.av,H1)/\ld (.ref H.next 0 0) H1=ZC (I c.aF,H1):=by
  intro H1 a b;have g:H1.get H.next=.blk 0 31 c.av:=by rw[b _ (by omega)];exact aK W
  exact⟨hx1.iD a b,gU g,by rw[dG g];rfl⟩
 have l0:c.av[0]?=ZC (I c.aF):=rfl;have⟨auZ,x0,_⟩:=hx1;have e1:=x0.lnS;by_cases hc:(ps.length:Int)=c.aF;rotate_left
 ·simp only[H0]at e1;simp only[Nat.reduceLT,xq_,hq_,akG,aC (eF c),e1,l0,hc,Cfg.nR,Bool.and_false,Bool.not_false]
 -- the operations of one program
 have inner:∀(i:Nat) (l:Q Opn),ps[i]?=ZC l->l.length<1000000000->∀k j,j+k=l.length->(l.take j).all c.right=Z0->∀H1:ah,H.next<=H1.base->H0.next<=H1.next->(∀r,r<H0.next->H1.get r=H0.get r)->H1.base<=H1.next->∀(u v:AV),aH H0 v 3 l.length (l.flatMap Opn.av)->
   (l.all c.right=ZV->(xg cl [.ref H.next 0 0,x,I ps.length,I i,v,I l.length,I j] H1).map Prod.fst=ZC (B ZV))/\
   (l.all c.right=Z0->∃H2,H.next<=H2.base/\H0.next<=H2.next/\(∀r,r<H0.next->H2.get r=H0.get r)/\H2.base<=H2.next/\xg cl [.ref H.next 0 0,x,I ps.length,I i,v,I l.length,I j] H1=Dk cl [.ref H.next 0 0,x,I ps.length,I (i+1:Nat)] H2):=by
  intro i l hi hll k;have hip:i<ps.length:=(List.getElem?_eq_some_iff.1 hi).1
  induction k with
  |zero=>
   intro j hj hall H1 b0 b1 b2 b3 u v hv;have h1:¬(j:Int)<l.length:=by omega
   have hal:l.all c.right=true:=by rw[List.take_of_length_le (by omega)]at hall;exact hall
   have h6:(i:Int)+1=((i+1:Nat):Int):=by omega
   have h7:=wrap_i64 (a:=((i+1:Nat):Int)) (by omega) (by omega);refine⟨λh=>(by rw[hal]at h;cases h),λ_=>⟨H1,b0,b1,b2,b3,?_⟩⟩;rw[UJ];simp only[Nat.reduceAdd,aI,xq_,hq_,h1,bM,h6,h7]
  |succ k ih=>
   intro j hj hall H1 b0 b1 b2 b3 u v hv;have h1:(j:Int)<l.length:=by omega
   have hv1:=hv.iD (H':=H1) b1 λr _ hr=>b2 r hr;have h3:=hv1.ix (k:=.i64) (i:=(j:Int)) (by omega) h1;rw[Int.toNat_natCast]at h3;have⟨o,ho⟩:∃o,l[j]?=ZC o:=⟨_,List.getElem?_eq_getElem (by omega)⟩
   have h4:=jT eG hv1 ho;have⟨_,k2,_⟩:=keep b1 b2;have h5:=λH=>U4 H c h o;have lt0:H.next<H1.next:=by omega
   have h6:(j:Int)+1=((j+1:Nat):Int):=by omega
   have h7:=wrap_i64 (a:=((j+1:Nat):Int)) (by omega) (by omega);have hz:H1.base<=H1.next:=b3
   cases hr:c.right o with
   |false=>
    have hal:l.all c.right=false:=by
     rw[List.all_eq_false];exact⟨o,List.mem_of_getElem? ho,by simp[hr]⟩
    refine⟨λ_=>?_,λh=>(by rw[hal]at h;cases h)⟩;rw[UJ];simp only[Nat.reduceAdd,aI,xq_,hq_,h1,h3,h4,k2,h5,lt0,hr,hz,Bool.not_false]
   |true=>
    have at7:(l.take (j+1)).all c.right=true:=by
     rw[List.take_add_one,ho,List.all_append,hall];simp[hr]
    have key:=ih (j+1) (by omega) at7 (H1.new (.blk 0 61 o.av)) b0 (Nat.le_succ_of_le b1) (λr hr=>by rw[aZ (by omega)];exact b2 r hr) (Nat.le_succ_of_le b3) u v hv;have step:xg cl [.ref H.next 0 0,x,I ps.length,I i,v,I l.length,I j] H1=xg cl [.ref H.next 0 0,x,I ps.length,I i,v,I l.length,I (j+1:Nat)] (H1.new (.blk 0 61 o.av)):=by
     rw[UJ];simp only[Nat.reduceAdd,aI,xq_,hq_,h1,h3,h4,k2,h5,lt0,hr,hz,Bool.not_true,bM,h6,h7]
    rw[step];exact key
 have outer:∀k i,i+k=ps.length->(ps.take i).all (ajq c)=Z0->∀H1:ah,H.next<=H1.base->H0.next<=H1.next->(∀r,r<H0.next->H1.get r=H0.get r)->H1.base<=H1.next->(Dk cl [.ref H.next 0 0,x,I ps.length,I i] H1).map Prod.fst=ZC (B (ps.all (ajq c))):=by
  intro k
  induction k with
  |zero=>
   intro i hi hall H1 b0 b1 b2 b3;have h1:¬(i:Int)<ps.length:=by omega
   rw[List.take_of_length_le (by omega)]at hall;rw[hall,Oj];simp only[xq_,h1]
  |succ k ih=>
   intro i hi hall H1 b0 b1 b2 b3;have h1:(i:Int)<ps.length:=by omega
   have⟨⟨cells,x1,x2⟩,_,_⟩:=keep b1 b2;have hcl:cells.length=ps.length:=by have:=x1.1;omega
   have h3:=x1.ix (k:=.i64) (i:=(i:Int)) (by omega) h1;rw[Int.toNat_natCast]at h3;have⟨v,hv⟩:∃v,cells[i]?=ZC v:=⟨_,List.getElem?_eq_getElem (by omega)⟩
   have⟨l,hpl⟩:∃l,ps[i]?=ZC l:=⟨_,List.getElem?_eq_getElem (by omega)⟩
   have h4:=x1.ld (i:=i) (by omega);rw[hv]at h4;have⟨y1,_⟩:=x2 i v l hv hpl;have h5:=y1.lnS;have hll:=hl l (List.mem_of_getElem? hpl)
   -- the same slice,at first
   have y0:aH H0 v 3 l.length (l.flatMap Opn.av):=by
    have⟨⟨cells',z1,z2⟩,_,_⟩:=keep (H1:=H0) (Nat.le_refl _) λ_ _=>rfl;have hv':cells'[i]?=ZC v:=by
     have:=(z1.iD (H':=H1) b1 λr _ hr=>b2 r hr).ld (i:=i) (by omega);rw[h4]at this;cases hc':cells'[i]? with
     |none=>rw[hc']at this;cases this
     |some w=>rw[hc']at this;simp only[Option.map_some,Option.some.injEq,zaa,zau]at this;rw[this]
    exact(z2 i v l hv' hpl).1
   by_cases hlen:l.length<=24
   ·have h24:¬(24:Int)<l.length:=by omega
    have:=inner i l hpl hll l.length 0 (by omega) (by simp) H1 b0 b1 b2 b3 v v y0;cases hr:l.all c.right with
    |false=>
     have hal:ps.all (ajq c)=false:=by
      rw[List.all_eq_false];exact⟨l,List.mem_of_getElem? hpl,by simp[ajq,hr]⟩
     have t:=this.1 hr;rw[hal,Oj];simp only[xq_,h1,h3,h4,h5,h24];exact t
    |true=>
     have⟨H2,c0,c1,c2,c3,t⟩:=this.2 hr;have:=ih (i+1) (by omega) (by rw[List.take_add_one,hpl,List.all_append,hall];simp[ajq,hlen,hr]) H2 c0 c1 c2 c3;rw[Oj];simp only[xq_,h1,h3,h4,h5,h24];have t':xg cl [.ref H.next 0 0,x,I ps.length,I i,v,I l.length,I 0] H1=Dk cl [.ref H.next 0 0,x,I ps.length,I (i+1:Nat)] H2:=t;rw[t'];exact this
   ·have h24:(24:Int)<l.length:=by omega
    have hal:ps.all (ajq c)=false:=by
     rw[List.all_eq_false];exact⟨l,List.mem_of_getElem? hpl,by simp[ajq,hlen]⟩
    rw[hal,Oj];simp only[xq_,h1,h3,h4,h5,h24]
 have fin:=outer ps.length 0 (by omega) (by simp) H0 (Nat.le_refl _) (Nat.le_refl _) (λ_ _=>rfl) (by rw[n0];show H.next<=_;omega);have eo:c.nR ps=ps.all (ajq c):=by simp only[Cfg.nR,hc,zax,Bool.and_true];rfl
 rw[eo];simp only[H0]at e1 fin;simp only[Nat.reduceLT,xq_,hq_,akG,aC (eF c),e1,l0,hc];rw[<-hc];exact fin
def YR {β:Type}{w:M Nat}{H H':ah}{k:M β}(h:∀r,w=ZC r->H'.get r=H.get r):ck w H H' k=k:=y h
def uj {H1:ah}{n d m k:Nat}{x:AV}{cells:Q AV}(c:Own n H1 x m cells)(hm:0<m)(b:cells.length=k*m)(i:∀y∈cells,bV H1 n d y=ZC y)(hk:k≠0):bV H1 n (d+1) x=ZC (.vs k m cells):=by
 rcases c with⟨rfl,rfl⟩|⟨r,g,off,n',e,ex,q,all,rfl,j,u,k4,o,v,w,rfl⟩
 ·simp only[List.length_nil]at b;rcases Nat.mul_eq_zero.1 b.symm with h|h <;> omega
 ·have p:n'*m<=e*m:=Nat.mul_le_mul_right _ k4;rw[List.length_take,List.length_drop,Nat.min_eq_left V]at b;have:n'=k:=Nat.eq_of_mul_eq_mul_right hm b;subst this;exact kS j (cells:=(all.drop off).take (n'*m)) (by simp only[cZ,o];rw[YY ⟨zac,V⟩]) (iM _ i)
def acC {c:Cfg}{ak:Int}(h0:0<=ak)(b:ak<c.aT){i:Nat}(hi:i<c.aP.toNat):(c.first ak)[i]?=ZC (c.init.getD ((ak*c.aP).toNat+i) 0):=by
 unfold Cfg.first
 rw[F V,List.getElem?_map,List.getElem?_range hi];rfl
def I9 {c:Cfg}{ak:Int}(h0:0<=ak)(b:ak<c.aT):(c.first ak).length=c.aP.toNat:=by
 unfold Cfg.first
 rw[F V];simp
def YS(H:ah)(c:Cfg)(h:c.ok=Z0)(ak:Int)(h0:0<=ak)(h1:ak<c.aT):cl 173 [.agg c.av,I ak] H=ZC (dat (c.first ak),H):=by
 have Bd:=qp h;have hw:=Bd.aP;have hlw:0<=ak*c.aP:=Int.mul_nonneg h0 (by omega);have avF:ak*c.aP<=8*4:=Int.mul_le_mul (by have:=Bd.aT;omega) hw.2 (by omega) (by omega);have w:=wrap_i64 (a:=ak*c.aP) (by omega) (by omega);let H0:=H.guard.new (.blk 0 31 c.av);have g0:H0.get H.next=.blk 0 31 c.av:=aK W
 have key:∀k i,i+k=c.aP.toNat->∀(H1:ah) (x:AV),H.next<=H1.next->H1.base=H.next->H1.get H.next=.blk 0 31 c.av->Own (H.next+1) H1 x 1 (((c.first ak).take i).map I)->H.next+1<=H1.next->
   ∃H2 y,FH cl [I ak,.ref H.next 0 0,x,I i] H1=ZC (y,H2)/\Own (H.next+1) H2 y 1 ((c.first ak).map I):=by
  intro k
  induction k with
  |zero=>
   intro i hi H1 x n1 b1 g1 O n2;have l2:ld (.ref H.next 0 2) H1=ZC (I c.aP,H1):=by rw[dG g1];rfl
   have hn:¬(i:Int)<c.aP:=by omega
   rw[List.take_of_length_le (by rw[I9 h0 h1];omega)]at O;refine⟨H1,x,?_,O⟩;rw[WZ];simp only[xq_,l2,hn]
  |succ k ih=>
   intro i hi H1 x n1 b1 g1 O n2;have l2:ld (.ref H.next 0 2) H1=ZC (I c.aP,H1):=by rw[dG g1];rfl
   have l7:ld (.ref H.next 0 7) H1=ZC (dat c.init,H1):=by rw[dG g1];rfl
   have hn:(i:Int)<c.aP:=by omega
   have e1:=(gJ H1 c.init).lnS;have w2:=wrap_i64 (a:=ak*c.aP+i) (by omega) (by omega);have h6:(i:Int)+1=((i+1:Nat):Int):=by omega
   have h7:=wrap_i64 (a:=((i+1:Nat):Int)) (by omega) (by omega);have hg:=acC (c:=c) (ak:=ak) h0 h1 (i:=i) (by omega);have tail:∀v:Int,v=c.init.getD ((ak*c.aP).toNat+i) 0->∃H2 y,FI cl (I ak) (.ref H.next 0 0) x (I i) (I v) H1=ZC (y,H2)/\Own (H.next+1) H2 y 1 ((c.first ak).map I):=by
    intro v hv;have eb:bs 22 1 [(0,I v)] H1=ZC (.sl H1.next 0 0 1 1 1 Z0,H1.new (.blk 0 3 [I v])):=(ND (by decide)).trans (jE W W W);have⟨x',H2,a1,a2,a3⟩:=(O.new (.blk 0 3 [I v])).step (n:=i) (k:=1) (e:=3) (by_:=8) (y:=.sl H1.next 0 0 1 1 1 Z0) (new:=[I v]) (by rw[eu];omega) (by rw[iO,b1];omega) (by decide) (by rw[List.length_map,List.length_take,I9 h0 h1];omega) (jZ W) W (by unfold most;omega) (by unfold most;omega);have O2:Own (H.next+1) H2 x' 1 (((c.first ak).take (i+1)).map I):=by
     rw[List.take_add_one,hg,List.map_append];rw[hv]at a2;exact a2
    have⟨H3,y,r1,r2⟩:=ih (i+1) (by omega) H2 x' (by have:=a3.next;rw[eu]at this;omega) (by rw[a3.base,iO,b1]) (by rw[a3.low _ (by omega),aZ (by omega),g1]) O2 (by have:=a3.next;rw[eu]at this;omega);refine⟨H3,y,?_,r2⟩;simp only[xq_,FI,eb,a1,bM,h6,h7,r1]
   rw[WZ];by_cases hc:ak*c.aP+i<c.init.length
   ·have e2:=(gJ H1 c.init).ix (k:=.i64) (i:=ak*c.aP+i) (by omega) hc;have e3:=(gJ H1 c.init).ld (i:=(ak*c.aP+i).toNat) (by omega);have e4:(c.init.map I)[(ak*c.aP+i).toNat]?=ZC (I (c.init.getD ((ak*c.aP).toNat+i) 0)):=by
     have:(ak*c.aP+i).toNat=(ak*c.aP).toNat+i:=by omega
     rw[this,List.getElem?_map,List.getElem?_eq_getElem (by omega)];simp[List.getD,List.getElem?_eq_getElem (show(ak*c.aP).toNat+i<c.init.length by omega)]
    rw[e4]at e3;have⟨H2,y,r1,r2⟩:=tail _ W;refine⟨H2,y,?_,r2⟩;simp only[xq_,l2,hn,iP,w,bM,w2,l7,e1,hc,e2,e3,r1]
   ·have⟨H2,y,r1,r2⟩:=tail 0 (by
     have:c.init.length<=(ak*c.aP).toNat+i:=by omega
     simp[List.getD,List.getElem?_eq_none this])
    refine⟨H2,y,?_,r2⟩;simp only[xq_,l2,hn,iP,w,bM,w2,l7,e1,hc,r1]
 have⟨H2,y,r1,r2⟩:=key c.aP.toNat 0 (by omega) H0 zN (by show H.next<=H.next+1;omega) W g0 (.inl ⟨W,by simp⟩) (Nat.le_refl _);refine gY W W (apu _ _ _ _ (r:=(y,H2)) ?_) ?_
 ·have n0:¬ak<0:=by omega
  have n1:¬c.aT<=ak:=by omega
  have l1:c.av[1]?=ZC (I c.aT):=rfl;simp only[Nat.reduceLT,xq_,hq_,aiH,aC (eF c),n0,n1,l1];exact r1
 ·rw[qN (OH h h0 h1)];have r3:Own H.next H2 y 1 ((c.first ak).map I):=by
   rcases r2 with r2|⟨r,g,off,n,cap,ex,ty,all,a0,a1,a2⟩
   ·exact .inl r2
   ·exact .inr ⟨r,g,off,n,cap,ex,ty,all,a0,by omega,a2⟩
  exact uj r3 (by decide) (by simp) (λy hy=>rZ _ y hy _ _) (λe=>OH h h0 h1 (List.eq_nil_of_length_eq_zero e))
def acD(H:ah)(sets ways:Int)(h:1<=sets)(g:1<=ways):∃H' q,cl 122 [I sets,I ways] H=ZC (.ref q 0 0,H')/\Made H H' (upd lH q (C9 ⟨[],sets,ways,0⟩ [])):=by
 refine⟨_,H.next,bg W W (aoH _ _ _ _ (r:=(_,H.new (.blk 0 265 [I sets,I ways,zI,zN]))) ?_),kP W W λi c x hc b=>?_⟩
 ·have e:max sets (1:Int)=sets:=V
  have d:max ways (1:Int)=ways:=V
  simp only[Nat.reduceLT,Nat.reduceAdd,Nat.reduceLeDiff,aI,xq_,hq_,ah0,Nw,e,d,ana,jf,fO,ahf,aC]
 ·match i with
  |0=>left;cases hc;cases b;rfl
  |1=>left;cases hc;cases b;rfl
  |2=>left;cases hc;cases b;rfl
  |3=>right;cases hc;cases b;exact⟨W,6,W⟩
  |i+4=>cases hc
def ala(H:ah)(c:Cfg)(h:c.ok=Z0):∃H' f,cl 78 [.agg c.av] H=ZC (.ref f 0 0,H')/\Made H H' (upd lH f (YC c (List.replicate (4*c.aF.toNat) []))):=by
 have D:=qp h;have Q:=D.aF;let H1:=H.new (.blk 0 31 c.av);let A:=H1.new (.blk 0 350 (dM [zN,zN,zN,zN] c.aF.toNat));let S:AV:=.sl (H.next+1) 0 0 4 c.aF.toNat c.aF.toNat Z0;let d:=A.new (.blk 0 206 (c.av++[S]));have u:=Wx (e:=350) (m:=4) (by_:=96) (z:=[zN,zN,zN,zN]) (n:=c.aF) (H:=H1) W W V V J;have E:c.av[0]?=ZC (I c.aF):=rfl;have g:∀n,(dM [zN,zN,zN,zN] n).length=n*4/\∀(j:Nat) x,(dM [zN,zN,zN,zN] n)[j]?=ZC x->x=zN:=by
  intro n
  induction n with
  |zero=>exact⟨W,λj x b=>by simp[dM]at b⟩
  |succ n C=>
   refine⟨by rw[dM,List.length_append,C.1];simp;omega,λj x b=>?_⟩;rw[dM]at b;have:=List.mem_of_getElem? b;rcases List.mem_append.1 this with hm|hm
   ·simpa using hm
   ·have⟨k,hk,v⟩:=List.getElem_of_mem hm;exact C.2 k x (by rw[List.getElem?_eq_getElem hk,v])
 refine⟨d,H.next+2,bg W W (atB _ _ _ (r:=(_,d)) ?_),⟨by show H.next<=H.next+3;omega,W,λr F=>?_,by show H.next<=H.next+3;omega,λr=>if r=H.next+2 then ZC (r,0,0,0)else if r=H.next+1 then ZC (H.next+2,9,0,0)else Z1,λq cs o=>?_⟩⟩
 ·have e:bd 206 [(0,.agg c.av),(1,S)]=ZC (.agg (c.av++[S])):=by
   simp only[xq_,am6,jf,fO,ahb,Cfg.av,eU];rfl
  have G:(c.av++[S]).all AV.aU=true:=by rw[List.all_append,eF];rfl
  have K:=gU (H:=H1) (r:=H.next) (c:=c) (aK W);have L:H1.next=H.next+1:=rfl
  simp only[L]at u;simp only[H1]at u K;simp only[Nat.reduceLT,xq_,hq_,aof,aC (eF c),E,u,e,aC G,S];rfl
 ·simp only[d,A,H1];rw[aZ (by simp only[eu];omega),aZ (by simp only[eu];omega),aZ F]
 ·unfold upd at o;split at o
  ·rename_i e;subst e;cases o;refine⟨O,V,by show _<H.next+3;omega,vY (ty:=206) (xs:=c.av++[S]) (aK W) J,206,c.av++[S],aK W,by simp[YC,Cfg.av],by rw[List.all_append,eF];rfl,λi R x hc b=>?_⟩;rcases Nat.lt_or_ge i 8 with hi|hi
   ·rw[YC,List.getElem?_append_left (by simp[Cfg.av];omega),List.getElem?_map]at hc;rw[List.getElem?_append_left (by simp[Cfg.av];omega)]at b;rw[b]at hc;cases hc;exact W
   ·have w:i=8:=by
     have:=(List.getElem?_eq_some_iff.1 b).1;simp[Cfg.av]at this;omega
    subst w;cases hc;cases b;refine⟨dM [zN,zN,zN,zN] c.aF.toNat,.inr ⟨H.next+1,0,0,c.aF.toNat,c.aF.toNat,Z0,350,_,W,O,V,by show _<H.next+3;omega,Nat.le_refl _,by simp only[d];rw[aZ (by show _<H.next+2;omega)];exact aK W,by rw[(g _).1];omega,xX W _,?_⟩,by rw[(g _).1,List.length_replicate];omega,λj cells y p M=>?_⟩
    ·rw[List.drop_zero,List.take_of_length_le (by rw[(g _).1];omega)]
    ·rw[List.getElem?_replicate]at p;split at p
     ·cases p;exact .inl ⟨(g _).2 _ _ M,W⟩
     ·cases p
  ·cases o
def jK(c:Cfg)(n:Nat):Q Row:=(List.range n).map λ(i:Nat)=>(⟨0,-1,c.first (i:Int)⟩:Row)
def U5(c:Cfg)(n:Nat):jK c (n+1)=jK c n++[⟨0,-1,c.first n⟩]:=by
 simp[jK,List.range_succ]
def acE(H:ah)(hb:H.base<=H.next)(c:Cfg)(h:c.ok=true)(me:Int):∃H' q,cl 123 [.agg c.av,I me] H=some (.ref q 0 0,H')/\Made H H' (upd lH q (pF c me ((Iy.new c).dS.flatMap Row.av) ⟨[],[]⟩)):=by
 have Bd:=qp h;have hl:=Bd.aT;let H1:=H.new (.blk 0 31 c.av);let xs:List AV:=c.av++[I me,zN,zN,zN]
 let H2:=H1.new (.blk 0 272 xs);let f:=H.next+1
 have ax:xs.all AV.aU=true:=by simp only[xs,List.all_append,eF];rfl
 have M0:Made H1 H2 (upd lH f (pF c me [] ⟨[],[]⟩)):=kP ax (by simp[xs,pF]) λi cc x hc hx=>by
  rcases Nat.lt_or_ge i 8 with hi|hi
  ·left;rw[pF,List.getElem?_append_left (by simp[Cfg.av];omega),List.getElem?_map]at hc;rw[List.getElem?_append_left (by simp[Cfg.av];omega)]at hx;rw[hx]at hc;exact(Option.some.inj hc).symm
  ·obtain⟨j,rfl⟩:∃j,i=8+j:=⟨i-8,by omega⟩
   match j with
   |0=>left;cases hc;cases hx;rfl
   |1=>right;cases hc;cases hx;exact⟨rfl,3,rfl⟩
   |2=>right;cases hc;cases hx;exact⟨rfl,2,rfl⟩
   |3=>right;cases hc;cases hx;exact⟨rfl,3,rfl⟩
   |j+4=>exfalso;have:=(List.getElem?_eq_some_iff.1 hx).1;simp[xs,Cfg.av]at this;omega
 have key:∀k i,i+k=c.aT.toNat->∀Hi,Made H1 Hi (upd lH f (pF c me ((jK c i).flatMap Row.av) ⟨[],[]⟩))->
   ∃H',Fg cl [.ref H.next 0 0,.ref f 0 0,I i] Hi=some (.ref f 0 0,H')/\Made H1 H' (upd lH f (pF c me ((jK c c.aT.toNat).flatMap Row.av) ⟨[],[]⟩)):=by
  intro k
  induction k with
  |zero=>
   intro i hi Hi M;have h1:¬(i:Int)<c.aT:=by omega
   have g:Hi.get H.next=.blk 0 31 c.av:=by rw[M.same _ (by show H.next<H.next+1;omega)];exact aK rfl
   have l1:ld (.ref H.next 0 1) Hi=some (I c.aT,Hi):=by rw[dG g];rfl
   rw[WH];refine⟨Hi,?_,by rw[show c.aT.toNat=i by omega];exact M⟩;simp only[Int.reduceNeg,xq_,l1,h1]
  |succ k ih=>
   intro i hi Hi M;have h1:(i:Int)<c.aT:=by omega
   have h6:(i:Int)+1=((i+1:Nat):Int):=by omega
   have h7:=wrap_i64 (a:=((i+1:Nat):Int)) (by omega) (by omega);have n1:H1.next=H.next+1:=rfl
   have g:Hi.get H.next=.blk 0 31 c.av:=by rw[M.same _ (by omega)];exact aK rfl
   have l1:ld (.ref H.next 0 1) Hi=some (I c.aT,Hi):=by rw[dG g];rfl
   have l8:=gU g;obtain⟨x,hx,cx⟩:=M.good.seq aQ (i:=9) rfl;have e1:=YS Hi.guard c h i (by omega) h1;let r:Row:=⟨0,-1,c.first i⟩
   have hlen:((jK c i).flatMap Row.av).length=i*3:=by rw[dF CX];simp[jK]
   have eb:=jE (e:=274) (m:=3) (z:=[zI,zI,zN]) (v:=.agg r.av) (H:=Hi) rfl rfl (Ik r);simp only[eU]at eb;obtain⟨x',He,Hf,t1,t2,t3,t4⟩:=(M.good.new (.blk 0 274 r.av)).append (e:=274) (by_:=40) (by rw[iO,M.base,n1];simp only[H1,iO];omega) aQ (i:=9) rfl (by decide) hlen (cx.new _) (jZ (ex:=true) (n:=1) (m:=3) (l:=r.av) rfl) (Ik r) (by unfold most;omega) (by unfold most;omega);have Mf:Made H1 Hf (upd lH f (pF c me ((jK c (i+1)).flatMap Row.av) ⟨[],[]⟩)):=by
    refine((M.new _).step t3 t4).as ?_;rw[pz,U5,List.flatMap_append]
    congr 1
   obtain⟨H',r1,r2⟩:=ih (i+1) (by omega) Hf Mf;refine⟨H',?_,r2⟩;rw[WH];have er:bd 274 [(0,I 0),(1,I (-1)),(2,dat (c.first i))]=some (.agg r.av):=by
    simp only[Int.reduceNeg,xq_,anc,jf,fO,ahh,Ii];rfl
   simp only[Int.reduceNeg,Nat.reduceLeDiff,xq_,hq_,l1,h1,hx,l8,e1,er,amN,Nat.one_mul,eb,t1,t2,bM,h6,h7,r1]
 obtain⟨H',r1,r2⟩:=key c.aT.toNat 0 (by omega) H2 M0;refine⟨H',f,bg rfl rfl (aoI _ _ _ _ (r:=(_,H')) ?_),r2.xu⟩;have e:bd 272 [(0,.agg c.av),(1,I me)]=some (.agg xs):=by
  simp only[xq_,anb,jf,fO,ahg,Cfg.av,eU];rfl
 have e0:=gU (H:=H1) (r:=H.next) (c:=c) (aK rfl);simp only[H1]at e0;simp only[Nat.reduceLT,xq_,hq_,ah2,aC (eF c),e0,e,aC ax];exact r1
def alb {H:ah}{v:AV}{l:Q Opn}(hv:aH H v 3 l.length (l.flatMap Opn.av))(hl:l.length<1000000):
  ∃y H',app 61 3 24 zN v H=ZC (y,H')/\Own H.next H' y 3 (l.flatMap Opn.av)/\Step H.next H H':=by
 have O:Own H.next H zN 3 []:=.inl ⟨W,W⟩
 have hz:most=most:=rfl;have⟨c1,c2⟩:=hv.wQ;by_cases h0:l=[]
 ·subst h0;refine⟨zN,H,?_,.inl ⟨W,W⟩,Step.refl _ _⟩;simp only[app,c1,c2,dV];rfl
 ·have hn:l.length≠0:=λe=>h0 (List.eq_nil_of_length_eq_zero e);refine⟨_,_,Un hv (E8 mg l) hn (by unfold most;omega) (by unfold most;omega),.inr ⟨H.next,0,0,l.length,l.length,ZV,61+gW,l.flatMap Opn.av,W,Nat.le_refl _,by rw[eu];omega,Nat.le_refl _,aK W,by rw[dF eG];omega,E8 mg l,?_⟩,Step.new _ (Nat.le_refl _)⟩;rw[List.drop_zero,List.take_of_length_le (by rw[dF eG];exact Nat.le_refl _)]
def afB {H H1:ah}{ty:XN}{xs:Q AV}{cs:Q Cell}{i0 m0:Nat}{l0:Q AV}{y:AV}(s:Step H.next H H1)(hc:xs.all AV.aU=Z0)(o:xs.length=cs.length)(O:Own H.next H1 y m0 l0)
  (h:∀(i:Nat) (c:Cell) (x:AV),cs[i]?=ZC c->xs[i]?=ZC x->c=.av x∨(x=zN/\∃m,c=.seq m [])∨(i=i0/\x=y/\c=.seq m0 l0)) (p:ty<gW:=by decide):
  Made H (H1.new (.blk 0 ty xs)) (upd lH H1.next cs):=by
 have n1:=s.next
 refine⟨by rw[eu];omega,s.base,λr u=>by rw[aZ V,s.low r u],by rw[eu];omega,λr=>if r=H1.next then ZC (r,0,0,0)else if iH y=ZC r then ZC (H1.next,i0+1,0,0)else Z1,λq v b=>?_⟩;unfold upd at b;split at b
 ·rename_i e;subst e;cases b;refine⟨ZZ,n1,by rw[eu];omega,vY (xs:=xs) (aK W) p,ty,xs,aK W,o,hc,λi c x d w=>?_⟩;rcases h i c x d w with rfl|⟨rfl,m,rfl⟩|⟨rfl,rfl,rfl⟩
  ·exact W
  ·exact .inl ⟨W,W⟩
  ·rcases O with O|⟨r,g,off,n,j,ex,k,all,rfl,z,A,k4,C,D⟩
   ·exact .inl O
   ·exact .inr ⟨r,g,off,n,j,ex,k,all,W,by simp only[iH];rw[F V,YY zac],z,by rw[eu];omega,k4,by rw[aZ A];exact C,D⟩
 ·cases b
def afC(H:ah)(c:Cfg)(h:c.ok=Z0)(me:Int)(l:Q Opn)(hl:l.length<1000000){x:AV}(hx:aH H x 3 l.length (l.flatMap Opn.av)):
  ∃H' a g',cl 79 [.agg c.av,I me,x] H=ZC (.ref (a 0) 0 0,H')/\Made H H' g'/\oG g' a c me (.new c l):=by
 have Bd:=qp h;let H1:=H.new (.blk 0 31 c.av);have⟨H2',q1,e1,M1⟩:=acD H1.guard c.sets c.ways Bd.sets.1 Bd.ways.1;have⟨H2,e1,M1⟩:=drawn e1 M1;have⟨H3',q2,e2,M2⟩:=acE H2.guard (Nat.le_refl _) c h me;have⟨H3,e2,M2⟩:=drawn e2 M2;have hx3:aH H3 x 3 l.length (l.flatMap Opn.av):=((hx.new (.blk 0 31 c.av)).iD M1.next λr _ hr=>M1.same r hr).iD M2.next λr _ hr=>M2.same r hr
 have⟨y,H4,e3,O,s4⟩:=alb hx3 hl;let a:=six H4.next q1 q2 0 0 0
 let xs:Q AV:=c.av++[I me,.ref q1 0 0,.ref q2 0 0,y,B ZV,zN,B ZV,zI,zI,zI,zI,zI,zI,zN,zI,zI,I 0]
 have hy:One y:=by
  rcases O with⟨rfl,_⟩|⟨r,g,off,n,cap,ex,ty',all,rfl,_⟩
  ·exact qG
  ·exact vZ
 have ax:xs.all AV.aU=true:=by simp only[xs,List.all_append,eF,List.all_cons,hy.2];rfl
 have M3:Made H3 (H4.new (.blk 0 213 xs)) (upd lH H4.next (Ea a c me (.new c l) [zI,zI,zI,zI,zI,zI,zN,zI,zI])):=by
  refine afB (i0:=11) (m0:=3) (l0:=l.flatMap Opn.av) (y:=y) s4 ax (by simp[xs,Ea]) O λi cc x hc hx=>?_;rcases Nat.lt_or_ge i 8 with hi|hi
  ·left;rw[Ea,List.append_assoc,List.append_assoc,List.getElem?_append_left (by simp[Cfg.av];omega),List.getElem?_map]at hc;rw[List.getElem?_append_left (by simp[Cfg.av];omega)]at hx;rw[hx]at hc;exact(Option.some.inj hc).symm
  ·obtain⟨j,rfl⟩:∃j,i=8+j:=⟨i-8,by omega⟩
   match j with
   |0|1|2|4|6|7|8|9|10|11|12|13|14|15|16=>left;cases hc;cases hx;rfl
   |3=>right;right;cases hc;cases hx;exact⟨W,W,W⟩
   |5=>right;left;cases hc;cases hx;exact⟨W,1,W⟩
   |j+17=>exfalso;have:=(List.getElem?_eq_some_iff.1 hx).1;simp[xs,Cfg.av]at this;omega
 have g1:H1.get H.next=.blk 0 31 c.av:=aK W
 have l1:H.next<H1.next:=by simp only[H1,eu];omega
 have l2:H.next<H2.next:=Nat.lt_of_lt_of_le l1 M1.next
 have g2:H2.get H.next=.blk 0 31 c.av:=by rw[M1.same _ l1,g1]
 have g3:H3.get H.next=.blk 0 31 c.av:=by rw[M2.same _ l2,g2]
 have l3:H.next<H3.next:=Nat.lt_of_lt_of_le l2 M2.next
 have g4:H4.get H.next=H3.get H.next:=s4.low _ l3
 have b1:=gU g1;have b2:=gU g2;have ec:∀{β:Type} (k:M β),ck (bT (.ref H.next 0 0)) H3 H4 k=k:=λk=>YR λr hr=>by cases hr;exact g4
 have G12:=M1.good.merge M2;refine⟨_,a,_,bg W W (atD _ _ _ _ _ (r:=(_,H4.new (.blk 0 213 xs))) ?_),((M1.trans M2).trans M3).xu,?_⟩
 ·have e:bd 213 [(0,.agg c.av),(1,I me),(2,.ref q1 0 0),(3,.ref q2 0 0),(4,y)]=ZC (.agg xs):=by
   simp only[xq_,am7,jf,fO,ahc,Cfg.av,eU,hy.1];rfl
  have l3:c.av[3]?=ZC (I c.sets):=rfl;have l4:c.av[4]?=ZC (I c.ways):=rfl;simp only[H1]at e1 b1;simp only[Nat.reduceLT,xq_,hq_,aog,aC (eF c),b1,l3,l4,e1,b2,e2,e3,e,aC ax,ec];rfl
 ·have z:QE (asC (cup H3.next (cup H2.next (upd lH q1 (C9 ⟨[],c.sets,c.ways,0⟩ [])) (upd lH q2 (pF c me ((Iy.new c).dS.flatMap Row.av) ⟨[],[]⟩))) (upd lH H4.next (Ea a c me (.new c l) [zI,zI,zI,zI,zI,zI,zN,zI,zI])))) (Iy.new c).dS ((Iy.new c).dS.flatMap Row.av):=QE.of λr _=>akc r;exact⟨⟨[zI,zI,zI,zI,zI,zI,zN,zI,zI],⟨zN,.inl (by simp[Iz.new,bW.zero,dat,gu]),by simp[Iz.new,bW.zero,bW.avx]⟩,lT M3.good aQ (Nat.le_refl _)⟩,⟨[],.nil,jU G12 (jU M1.good aQ W) W⟩,⟨_,z,jU G12 (lT M2.good aQ (Nat.le_refl _)) W⟩⟩
def oG.au0 {g:bG}{a:Nat->Nat}{c:Cfg}{me:Int}{n:Iz}(h:oG g a c me n){s:Nat}(b:s<3):∃l,g (a s)=ZC l:=by
 have⟨⟨_,_,d⟩,⟨_,_,e⟩,⟨_,_,i⟩⟩:=h
 match s,b with
 |0,_=>exact⟨_,d⟩
 |1,_=>exact⟨_,e⟩
 |2,_=>exact⟨_,i⟩
def oG.ext {g g':bG}{a:Nat->Nat}{c:Cfg}{me:Int}{n:Iz}(h:oG g a c me n)(hd:∀q cs,g q=ZC cs->¬aaQ cs->g' q=ZC cs)(b:∀s,s<3->g' (a s)=g (a s)):oG g' a c me n:=by
 have⟨⟨d,⟨x,m,o⟩,p⟩,⟨cells,k,u⟩,⟨dS,r,v⟩⟩:=h;exact⟨⟨d,⟨x,m.sub hd,o⟩,by rw[b 0 V,p]⟩,⟨cells,k.mono λe cs _ ⟨x,i,j⟩=>⟨x,i.sub hd,j⟩,by rw[b 1 V,u]⟩,⟨dS,r.mono λe cs _ ⟨x,i,j⟩=>⟨x,i.sub hd,j⟩,by rw[b 2 V,v]⟩⟩
def oG.inj {g:bG}{a:Nat->Nat}{c:Cfg}{me:Int}{n:Iz}(h:oG g a c me n){s t:Nat}(b:s<3)(i:t<3)(e:a s=a t):s=t:=by
 obtain⟨⟨d,⟨x,_,rfl⟩,j⟩,⟨_,_,k⟩,⟨_,_,m⟩⟩:=h;have o:(g (a s)).map List.length=(g (a t)).map List.length:=by rw[e]
 match s,b,t,i with
 |0,_,0,_|1,_,1,_|2,_,2,_=>rfl
 |0,_,1,_|0,_,2,_|1,_,0,_|1,_,2,_|2,_,0,_|2,_,1,_=>simp[j,k,m,Ea,C9,pF,bW.avx,Cfg.av]at o
def oG.lens {g:bG}{a:Nat->Nat}{c:Cfg}{me:Int}{n:Iz}(h:oG g a c me n){s:Nat}(b:s<3):∃l,g (a s)=ZC l/\aaQ l/\(l.length=25∨l.length=4∨l.length=12):=by
 obtain⟨⟨d,⟨x,_,rfl⟩,i⟩,⟨_,_,j⟩,⟨_,_,k⟩⟩:=h
 match s,b with
 |0,_=>exact⟨_,i,⟨.av (.ref (a 1) 0 0),by simp[Ea],λn e=>by cases e⟩,by left;simp[Ea,bW.avx,Cfg.av]⟩
 |1,_=>exact⟨_,j,⟨.seq 6 _,by simp[C9];rfl,λn e=>by cases e⟩,by right;left;simp[C9]⟩
 |2,_=>exact⟨_,k,⟨.seq 3 _,by simp[pF];left;rfl,λn e=>by cases e⟩,by right;right;simp[pF,Cfg.av]⟩
def YT {f:Nat}{N:Nat->Nat->Nat}{c:Cfg}{n:Nat}{ev:Q Evn}:aaQ (qK f N c n ev):=⟨.av (.ref f 0 0),by simp[qK],λn e=>by cases e⟩
def U6(H:ah)(hb:H.base<=H.next)(c:Cfg)(h:c.ok=true){x:AV}{ps:List (List Opn)}(hx:OG H x ps)(hp:c.nR ps=true):
  ∃H' q f N g',cl 35 [.agg c.av,x] H=some (.tup [.ref q 0 0,B true],H')/\Made H H' g'/\aaR g' q f N (.new c ps):=by
 have Bd:=qp h;obtain⟨hp1,hp2⟩:=yt hp;have hn:=Bd.aF;let H1:=H.new (.blk 0 31 c.av);have n1:H1.next=H.next+1:=rfl
 have g1:H1.get H.next=.blk 0 31 c.av:=aK rfl
 have b1:=gU g1;have e1:=acA H1 c;rw[h]at e1;have e2:=ak9 H1 c h (hx.iD (H':=H1) (by omega) λr hr=>aZ hr) (by omega) λl hl=>by have:=hp2 l hl;omega
 rw[hp]at e2;obtain⟨H2',f,e4,M1⟩:=ala H1.guard c h;obtain⟨H2,e4,M1⟩:=drawn e4 M1;let K:=H2.next
 let xs:List AV:=c.av++[.ref f 0 0,zN,zN]
 have hall:xs.all AV.aU=true:=by simp only[xs,List.all_append,eF];rfl
 have bx:∀H':ah,(∀r,r<H1.next->H'.get r=H1.get r)->H'.get H.next=.blk 0 31 c.av:=λH' hs=>by rw[hs _ (by omega),g1]
 have M2:Made H2 (H2.new (.blk 0 157 xs)) (upd lH K (qK f (λ_ _=>0) c 0 [])):=by
  refine kP hall (by simp[xs,qK]) λi cc y hc hy=>?_;rcases Nat.lt_or_ge i 8 with hi|hi
  ·left;rw[qK,List.getElem?_append_left (by simp[Cfg.av];omega),List.getElem?_map]at hc;rw[List.getElem?_append_left (by simp[Cfg.av];omega)]at hy;rw[hy]at hc;exact(Option.some.inj hc).symm
  ·obtain⟨j,rfl⟩:∃j,i=8+j:=⟨i-8,by omega⟩
   match j with
   |0=>left;cases hc;cases hy;rfl
   |1=>right;cases hc;cases hy;exact⟨rfl,1,rfl⟩
   |2=>right;cases hc;cases hy;exact⟨rfl,4,rfl⟩
   |j+3=>exfalso;have:=(List.getElem?_eq_some_iff.1 hy).1;simp[xs,Cfg.av]at this;omega
 have M0:=M1.add M2;let g0:=upd (upd lH f (YC c (List.replicate (4*c.aF.toNat) []))) K (qK f (λ_ _=>0) c 0 []);have key:∀k i,i+k=ps.length->∀Hi gi N,Made H1 Hi gi->gi K=some (qK f N c i [])->(∀q,q<K->gi q=g0 q)->(∀(j:Nat) l,j<i->ps[j]?=some l->oG gi (N j) c j (.new c l))->asE N i->
   ∃H' g' N',Ob cl [x,.ref H.next 0 0,.ref K 0 0,I i] Hi=some (.tup [.ref K 0 0,B true],H')/\Made H1 H' g'/\g' K=some (qK f N' c ps.length [])/\(∀q,q<K->g' q=g0 q)/\(∀(j:Nat) l,j<ps.length->ps[j]?=some l->oG g' (N' j) c j (.new c l))/\asE N' ps.length:=by
  intro k
  induction k with
  |zero=>
   intro i hi Hi gi N M hm hlow hnd hj;have l0:ld (.ref H.next 0 0) Hi=some (I c.aF,Hi):=by rw[dG (bx Hi M.same)];rfl
   have h1:¬(i:Int)<c.aF:=by omega
   have hi':ps.length=i:=by omega
   rw[abb];refine⟨Hi,gi,N,?_,M,by rw[hi'];exact hm,hlow,by rw[hi'];exact hnd,by rw[hi'];exact hj⟩;simp only[xq_,l0,h1]
  |succ k ih=>
   intro i hi Hi gi N M hm hlow hnd hj;have l0:ld (.ref H.next 0 0) Hi=some (I c.aF,Hi):=by rw[dG (bx Hi M.same)];rfl
   have h1:(i:Int)<c.aF:=by omega
   have h6:(i:Int)+1=((i+1:Nat):Int):=by omega
   have h7:=wrap_i64 (a:=((i+1:Nat):Int)) (by omega) (by omega);have hxi:=hx.iD (H':=Hi) (Nat.le_trans (by omega) M.next) λr hr=>by rw[M.same r (by omega)];exact aZ hr
   obtain⟨cells,x1,x2⟩:=hxi;have hcl:cells.length=ps.length:=by have:=x1.1;omega
   have s1:=x1.ix (k:=.i64) (i:=(i:Int)) (by omega) (by omega);rw[Int.toNat_natCast]at s1;have s2:=x1.ld (i:=i) (by omega);obtain⟨v,hv⟩:∃v,cells[i]?=some v:=⟨_,List.getElem?_eq_getElem (by omega)⟩
   obtain⟨l,hl⟩:∃l,ps[i]?=some l:=⟨_,List.getElem?_eq_getElem (by omega)⟩
   rw[hv]at s2;obtain⟨v1,v2⟩:=x2 i v l hv hl;have s4:=gU (bx Hi M.same);obtain⟨y,hy,cy⟩:=M.good.seq hm (i:=9) (m:=1) (l:=oW N i) rfl;obtain⟨Ha',a,ga,a1,Ma,Ia⟩:=afC Hi.guard c h i l (by have:=hp2 l (List.mem_of_getElem? hl);omega) v1.guard;obtain⟨Ha,a1,Ma⟩:=drawn a1 Ma;have Na:=M.trans Ma;let ga':=cup Hi.next gi ga
   have hK:=M.good.lt hm;have ajn:∀q,q<Hi.next->ga' q=gi q:=λq hq=>by simp only[ga',cup,hq,if_true]
   have aua:∀q cs,ga q=some cs->ga' q=some cs:=λq cs hq=>by
    have:=(Ma.lt hq).1;simp only[ga',cup];rw[if_neg (by omega),hq]
   have hma:ga' K=some (qK f N c i []):=by rw[ajn K hK,hm]
   let o:gG:=.blk 0 158 [.ref (a 0) 0 0];have hnl:(oW N i).length=i*1:=by simp[oW]
   obtain⟨y',He,Hf,t1,t2,t3,t4⟩:=(Na.good.new o).append (e:=158) (by_:=8) (by rw[iO,Na.base,n1];simp only[H1,iO];omega) hma (i:=9) (l:=oW N i) rfl (by decide) hnl ((cy.ext Ma.next Ma.same).new o) (jZ (ex:=true) (n:=1) (m:=1) (l:=[.ref (a 0) 0 0]) rfl) rfl (by unfold most;omega) (by unfold most;omega);let N':Nat->Nat->Nat:=λj=>if j=i then a else N j
   have hN:∀j,j<i->N' j=N j:=λj hj=>by simp only[N'];rw[if_neg (by omega)]
   have hNi:N' i=a:=by simp only[N',if_true]
   have Mf:Made H1 Hf (upd ga' K (qK f N' c (i+1) [])):=by
    refine((Na.new o).step t3 t4).as ?_
    congr 1
    show qK f N' c (i+1) []=_;have:=I8 (N:=N) (N':=N') hN;simp only[oW]at this;simp only[qK];rw[this,hNi];rfl
   have dat:∀q cs,ga' q=some cs->¬aaQ cs->upd ga' K (qK f N' c (i+1) []) q=some cs:=λq cs hq hd=>by
    rw[bF];exact hq;intro e;subst e;rw[hma]at hq;cases hq;exact hd YT
   have hal:∀s,s<3->Hi.next<=a s/\ga' (a s)=ga (a s):=λs hs=>by
    obtain⟨l,hg⟩:=Ia.au0 hs;have:=(Ma.lt hg).1;exact⟨this,by simp only[ga',cup];rw[if_neg (by omega)]⟩
   have hNl:∀j,j<i->∀s,s<3->N j s<Hi.next:=λj hji s hs=>by
    obtain⟨lj,hlj⟩:∃l,ps[j]?=some l:=⟨_,List.getElem?_eq_getElem (by omega)⟩
    obtain⟨l,hg⟩:=(hnd j lj hji hlj).au0 hs;exact M.good.lt hg
   obtain⟨H',g',N'',r1,r2⟩:=ih (i+1) (by omega) Hf _ N' Mf aQ (λq hq=>by
    rw[bF (by omega),ajn q (by omega),hlow q hq]) (λj lj hj1 hlj=>by
    by_cases hji:j=i
    ·subst hji;rw[hl]at hlj;cases hlj;rw[hNi];exact Ia.ext (λq cs hq hd=>dat q cs (aua q cs hq) hd) λs hs=>by
      obtain⟨h1,h2⟩:=hal s hs;rw[bF (by omega),h2]
    ·rw[hN j (by omega)];refine(hnd j lj (by omega) hlj).ext (λq cs hq hd=>dat q cs (by rw[ajn q (M.good.lt hq),hq]) hd) λs hs=>?_;have hlt:=hNl j (by omega) s hs;have hne:N j s≠K:=λe=>by
      obtain⟨l',hg,_,hl'⟩:=(hnd j lj (by omega) hlj).lens hs;rw[e,hm]at hg;cases hg;simp[qK,Cfg.av]at hl'
     rw[bF hne,ajn _ hlt]) (λj k s t hj1 hk1 hs ht e=>by
    by_cases hji:j=i
    ·by_cases hki:k=i
     ·subst hji;subst hki;rw[hNi]at e;exact⟨rfl,Ia.inj hs ht e⟩
     ·subst hji;rw[hNi,hN k (by omega)]at e;have:=(hal s hs).1;have:=hNl k (by omega) t ht;omega
    ·by_cases hki:k=i
     ·subst hki;rw[hNi,hN j (by omega)]at e;have:=(hal t ht).1;have:=hNl j (by omega) s hs;omega
     ·rw[hN j (by omega),hN k (by omega)]at e;exact hj j k s t (by omega) (by omega) hs ht e)
   refine⟨H',g',N'',?_,r2⟩;rw[abb];have eb:=jE (e:=158) (m:=1) (z:=[zP]) (v:=.ref (a 0) 0 0) (H:=Ha) rfl rfl rfl;have ec:(AV.ref (a 0) 0 0).cells=[.ref (a 0) 0 0]:=rfl;rw[ec]at eb;simp only[o]at t1 t2;simp only[Nat.reduceLeDiff,xq_,hq_,l0,h1,s1,s2,s4,hy,a1,amM,Nat.one_mul,eb,t1,t2,bM,h6,h7,r1]
 have hf:=M1.lt aQ;obtain⟨H',g',N,r1,r2,r3,r4,r5,r6⟩:=key ps.length 0 (by omega) _ g0 (λ_ _=>0) M0 aQ (λq hq=>rfl) (λj l hj=>by omega) (λi j s t hi=>by omega);refine⟨H',K,f,N,g',bg rfl rfl (asY _ _ _ _ (r:=(_,H')) ?_),r2.xu,?_⟩
 ·have b2:=gU (bx H2 M1.same);have em:bd 157 [(0,.agg c.av),(1,.ref f 0 0)]=some (.agg xs):=by
   simp only[xq_,am1,jf,fO,ag5,Cfg.av,eU];rfl
  simp only[H1]at b1 e1 e2 e4;simp only[Nat.reduceLT,xq_,hq_,anR,aC (eF c),b1,e1,e2,Bool.not_true,e4,em,aC hall];exact r1
 ·have gf:g' f=some (YC c (List.replicate (4*c.aF.toNat) [])):=by
   rw[r4 f hf.2];simp only[g0];rw[bF (by omega),aQ]
  refine⟨by rw[r3];simp[NJ.new],⟨_,gf,by simp[NJ.new],λi l cells hl hc=>?_⟩,λi n hi=>?_,by simp only[NJ.new,List.length_map];exact r6⟩
  ·have h1:l=[]:=by
    have hm:=List.mem_of_getElem? hl;simp only[NJ.new,List.mem_flatMap]at hm;obtain⟨p,hp,hl2⟩:=hm;rw[List.eq_of_mem_replicate hp]at hl2
    simpa [ahE,Port.zero]using hl2
   rw[List.getElem?_replicate]at hc;split at hc
   ·cases hc;rw[h1];exact .nil
   ·cases hc
  ·simp only[NJ.new,List.getElem?_map,Option.map_eq_some_iff]at hi;obtain⟨l,hl,rfl⟩:=hi;exact r5 i l (List.getElem?_eq_some_iff.1 hl).1 hl
def Xx(a b:Bool):bi .neq 4 (B a) (B b)=ZC (B (!decide (a=b))):=by
 cases a <;> cases b <;> kernel_rfl
structure nH(H:ah)(x:AV)(l:List Int):Prop where
 is:aH H x 1 l.length (l.map I)
 one:One x
 nil:l=[]->x=zN
def qc(H:ah)(l:Q Int):nH H (dat l) l:=⟨gJ H l,sU,λh=>by rw[h,dat,gu]⟩
def nH.guard {H:ah}{x:AV}{l:Q Int}(h:nH H x l):nH H.guard x l:=⟨h.is.guard,h.one,h.nil⟩
def nH.new {H:ah}{x:AV}{l:Q Int}(h:nH H x l)(o:gG):nH (H.new o) x l:=⟨h.is.new o,h.one,h.nil⟩
def Gf {p:Pkt}{x:AV}(h:One x):(p.avx x).all AV.aU=true:=by simp[Pkt.avx,iL,kR,h.2]
def afD {p:Ent}{x:AV}(h:One x):(p.avx x).all AV.aU=true:=by simp[Ent.avx,iL,kR,h.2]
section
variable {b:Nat}{H H':ah}{g:bG}{q:Nat}{cs:List Cell}
def OS.own {τ:Nat->M Tag}{T:Tag}{x:AV}{m:Nat}{l:Q AV}(h:OS b H τ T x m l):Own b H x m l:=by
 rcases h with h|⟨r,g,off,n,d,ex,e,all,i,_,j⟩
 ·exact .inl h
 ·exact .inr ⟨r,g,off,n,d,ex,e,all,i,j⟩
def Gh {α:Type}:∀{es:Q (Int × α)} {n:Int} {v:α},jw es n=ZC v->∃j:Nat,es[j]?=ZC (n,v)/\∀k,k<j->∀e,es[k]?=ZC e->e.1≠n
 |[],_,_,h=>by cases h
 |(k,w)::es,n,v,h=>by
  simp only[jw]at h;split at h
  ·rename_i e;subst e;cases h;exact⟨0,W,λk hk=>V⟩
  ·rename_i e;have⟨j,d,g⟩:=Gh h;refine⟨j+1,d,λk hk x b=>?_⟩;cases k with
   |zero=>cases b;exact e
   |succ k=>exact g k V x (by simpa using b)
def Ja {α:Type}:∀{es:Q (Int × α)} {n:Int},jw es n=Z1↔n∉es.map (·.1)
 |[],_=>by simp[jw]
 |(k,w)::es,n=>by
  simp only[jw];by_cases e:k=n
  ·simp[e]
  ·simp only[e,zaf,List.map_cons,List.mem_cons,not_or];rw[Ja];exact⟨λh=>⟨λb=>e b.symm,h⟩,λh=>h.2⟩
def um:∀(es:Q (Int × AV)) (n:Int),qA es n=jw es n
 |[],_=>rfl
 |(k,w)::es,n=>by
  simp only[qA,jw];split
  ·rfl
  ·exact um es n
def Ro {α β:Type}:∀{es:Q (Int × α)} {b:Q (Int × β)} {n:Int},b.map (·.1)=es.map (·.1)->(jw es n=Z1↔jw b n=Z1):=by
 intro es b n h;rw[Ja,Ja,h]
def Jb {α β:Type}:∀{es:Q (Int × α)} {b:Q (Int × β)} {n:Int} {v:α},b.map (·.1)=es.map (·.1)->jw es n=ZC v->∃(j:Nat) (w:β),jw b n=ZC w/\es[j]?=ZC (n,v)/\b[j]?=ZC (n,w)
 |[],_,_,_,_,h=>by cases h
 |(k,g)::es,[],_,_,h,_=>by simp at h
 |(k,g)::es,(k',w0)::b,n,v,h,d=>by
  simp only[List.map_cons,List.cons.injEq]at h;obtain⟨rfl,h⟩:=h;simp only[jw]at d ⊢;split at d
  ·rename_i e;subst e;cases d;exact⟨0,w0,O,W,W⟩
  ·rename_i e;have⟨j,w,i,m,o⟩:=Jb h d;exact⟨j+1,w,by simp only[e,zaf];exact i,m,o⟩
def Good.maps(G:Good b H g)(h:g q=ZC cs){i m:Nat}{k:IntKind}{es:Q (Int × Q AV)}(hi:cs[i]?=ZC (.maps k m es)):
  ∃r,ld (.ref q 0 i) H=ZC (.mp r,H)/\lnM (.mp r) H=ZC (I es.length,H)/\∀z n,∃x,(jw es n=Z1->x=.s z)/\(∀l,jw es n=ZC l->Own b H x m l)/\∀ok,lk k z (.mp r) (.s (.int k n)) ok H=ZC ((if ok then .tup [x,B (jw es n).isSome]else x),H):=by
 have⟨h0,τ,hR⟩:=G;have R:=hR q cs h;have⟨ty,xs,h1,h2,h3,h4⟩:=R.blk;have hlt:i<xs.length:=by rw[h2];exact(List.getElem?_eq_some_iff.1 hi).1
 have hx:xs[i]?=ZC (xs[i]'hlt):=List.getElem?_eq_getElem hlt;have:=h4 i _ _ hi hx;simp only[CR]at this;have⟨aes,⟨r,e,t1,t2,t3,t4⟩,a2,a3⟩:=this;rw[e]at hx;refine⟨r,by rw[dG h1,hx];rfl,?_,λz n=>?_⟩
 ·simp only[lnM,kV,bT,Option.map_some,aso,t4];have:=zaj List.length a2;simp only[List.length_map]at this;rw[this]
 ·cases hn:jw es n with
  |none=>
   have hf:qA aes n=none:=by rw[um];exact(Ro a2).1 hn
   refine⟨.s z,λ_=>rfl,λl hl=>(by cases hl),λok=>?_⟩;simp only[lk,kV,bT,Option.map_some,lkO,t4,and_self,zad,hf];cases ok <;> rfl
  |some l=>
   have⟨j,w,b1,b2,b3⟩:=Jb a2 hn;refine⟨w,λh=>(by cases h),λl' hl=>(by cases hl;exact(a3 j n l w b2 b3).own),λok=>?_⟩;simp only[lk,kV,bT,Option.map_some,lkO,t4,and_self,zad,um,b1];cases ok <;> rfl
end
def Jc(H:ah){l:Q Int}(hl:l.length<1000000000){x:AV}(hx:nH H x l):cl 36 [x] H=ZC (dat l,H):=by
 by_cases h:l=[]
 ·rw[hx.nil h];subst h;have t:=kC H [] (by simp);have z:dat ([]:Q Int)=zN:=by simp[dat,gu]
  rw[z]at t ⊢;exact t
 ·have h0:l.length≠0:=λe=>h (List.eq_nil_of_length_eq_zero e);have e2:=tZ (e:=3) (by_:=8) (r:=H.guard.next) (H:=H.guard.new (.blk 0 3 [])) qH (hx.is.guard.new _) (yh l) h0 (by unfold most;omega) (by unfold most;omega);simp only[wU,eu]at e2;refine gY W W (ae7 _ _ _ (r:=(.sl (H.next+1) 0 0 1 l.length l.length ZV,(H.guard.new (.blk 0 3 [])).new (.blk 0 (3+gW) (l.map I)))) ?_) ?_
  ·have e1:bi .eql 22 x zN=ZC (B ZV):=aH.aci Tryz.underlying22 hx.is h0;simp only[xq_,abd,e1,ND,zF,e2,Nat.zero_mul,Nat.zero_le]
  ·rw[qN h];refine kS (by omega) (cells:=l.map I) ?_ (iM _ λx hx=>rZ l x hx _ _);simp only[cZ,jq,eu,wU,zad];rw[y (by simp),List.drop_zero,List.take_of_length_le (by simp)]
def OJ(e:Ent){d:Nat}:∀x∈e.av,Frz (d+2) x:=λx b=>by
 simp only[Ent.av,List.mem_cons,List.not_mem_nil,zan]at b;rcases b with rfl|rfl|rfl|rfl|rfl|rfl <;> first|exact fC|exact sV
def U7(e:Row){d:Nat}:∀x∈e.av,Frz (d+2) x:=λx b=>by
 simp only[Row.av,List.mem_cons,List.not_mem_nil,zan]at b;rcases b with rfl|rfl|rfl <;> first|exact fC|exact sV
def su:Ent.zero.av=[zI,zI,zI,zI,zB,zN]:=by simp[Ent.zero,Ent.av,dat,gu]
def Xy:Row.zero.av=[zI,zI,zN]:=by simp[Row.zero,Row.av,dat,gu]
def Xz(H:ah)(e:Ent){x:AV}(g:e.data.length<1000000000)(b:nH H x e.data):cl 83 [.agg (e.avx x)] H=ZC (.agg e.av,H):=by
 refine bD W W (atH _ _ _) ?_ (mD (OJ e));have h:=λo d=>Jc ((H.guard.new o).new d) g ((b.guard.new o).new d);simp only[Nat.reduceLT,Nat.reduceAdd,aI,xq_,hq_,aol,aC,b.one.2,Ent.avx,h,Ent.av]
section
variable {b:Nat}{H:ah}{g:bG}{q:Nat}
def avI(H:ah)(e:Ent){r:Nat}{ak:Int}(h:∀H':ah,H'.get=H.get->ld (.ref r 0 0) H'=ZC (I ak,H'))(hr:r<H.next):cl 126 [.agg e.av,.ref r 0 0] H=ZC (B (u (e.ak=ak)),H):=by
 refine bD W W (aoL _ _ _ _) ?_ fC;have e1:=h H.guard W;simp only[Nat.reduceLT,xq_,hq_,ah5,aC,Ent.av,e1,hr]
def Jd(G:Good b H g){c:Cache}(h:g q=ZC (dD c))(hl:c.l.length<1000000)(ak:Int):cl 82 [.ref q 0 0,I ak] H=ZC (I (yM (c.at_ ak)),H):=by
 refine bD W W (atG _ _ _ _) ?_ fC;have G1:=G.guard.new (.blk 0 3 [I ak]);have⟨x,hx,c1⟩:=G1.seq h (i:=0) W;have hs:=c1.is (by decide) (dF dK c.l);have e2:=Eo (H.guard.new (.blk 0 3 [I ak])) (enc:=Ent.av) dK (f:=.fn (.func 126) [] [.ref H.next 0 0]) hs (by omega) (λe=>u (e.ak=ak)) (λe _=>by
  rw[ug (by kernel_rfl)];exact avI _ e (λH' hg=>by rw[dG (g:=0) (ty:=3) (xs:=[I ak]) (by rw[hg];exact aK W)];rfl) (by rw[eu,wU];omega))
 have eb:fK 3 (I ak) H.guard=ZC (.ref H.next 0 0,H.guard.new (.blk 0 3 [I ak])):=rfl;simp only[xq_,aok,eb,hx,e2];rfl
def sD {α:Type}{p:α->Bool}:∀l:Q α,(l.findIdx? p).bind (λi=>l[i]?)=l.find? p
 |[]=>rfl
 |a::l=>by
  rw[List.findIdx?_cons,List.find?_cons];cases h:p a with
  |true=>simp
  |false=>
   simp only[Bool.false_eq_true,zaf];rw[<-sD l];cases l.findIdx? p <;> simp
def jG(o:M Ent):AV:=.tup [.agg (o.getD .zero).av,B o.isSome]
def Lu(o:M Ent):Frz 9 (jG o):=wS λx b=>by
 simp only[List.mem_cons,List.not_mem_nil,zan]at b;rcases b with rfl|rfl
 ·exact mD (OJ _)
 ·exact fC
def nI(G:Good b H g){c:Cache}(h:g q=ZC (dD c))(y:c.l.length<1000000)(hd:∀e∈c.l,e.data.length<1000000000)(ak:Int):cl 41 [.ref q 0 0,I ak] H=ZC (jG (c.find ak),H):=by
 refine bD W W (as4 _ _ _ _) ?_ (Lu _);have p:=G.guard.new (.blk 0 100 [zI,zI,zI,zI,zB,zN]);have d:=Jd p h y ak;have j:c.find ak=(c.at_ ak).bind λi=>c.l[i]?:=(sD c.l).symm;cases ha:c.at_ ak with
 |none=>
  rw[ha]at d j;have m:yM (Z1:M Nat)=-1:=rfl;rw[m]at d;simp only[Int.reduceLT,Int.reduceNeg,Nat.reduceAdd,aI,xq_,hq_,aky,d,aaB,jf,dX,j,jG,su,Option.getD_none,Option.isSome_none,Option.bind_none]
 |some i=>
  rw[ha]at d j;have hi:i<c.l.length:=List.findIdx?_eq_some_iff_findIdx_eq.1 ha |>.1
  have⟨e,n⟩:∃e,c.l[i]?=ZC e:=⟨_,List.getElem?_eq_getElem hi⟩
  have m:yM (ZC i)=(i:Int):=rfl;rw[m]at d;have z:¬(i:Int)<0:=V
  have⟨x,A,C⟩:=p.seq h (i:=0) W;have u:=C.is J (dF dK c.l);have v:=u.ix (k:=.i64) (i:=(i:Int)) V V;rw[Int.toNat_natCast]at v;have D:=jT dK u n;have w:=λH=>Xz H e (hd e (List.mem_of_getElem? n)) (qc H e.data);have E:e.avx (dat e.data)=e.av:=rfl;rw[E]at w;have o:c.find ak=ZC e:=by rw[j];exact n
  simp only[Nat.reduceAdd,aI,xq_,hq_,aky,d,z,A,v,D,w,o,jG,Option.getD_some,Option.isSome_some]
def ajr(G:Good b H g){c:Cfg}{dS:Rows}(h:g q=ZC (EH c dS))(hd:∀e∈dS,e.2.data.length<1000000000)(ak:Int):cl 124 [.ref q 0 0,I ak] H=ZC (.tup [.agg (iR dS ak).av,B (jw dS ak).isSome],H):=by
 refine bD W W (aoJ _ _ _ _) ?_ (wS λx o=>?_)
 ·have u:=G.guard.new (.blk 0 95 [zI,zI,zN]);have⟨r,p,v,_⟩:=u.map h (i:=8) W;have d:=v (.agg #[.int .i64 0,.int .i64 0,.slice Z1 0 0]) ak Z0;rw[vk]at d;cases k:jw dS ak with
  |none=>
   have m:=λH=>kC H [] O;have y:dat ([]:Q Int)=zN:=by simp[dat,gu]
   rw[y]at m;have z:AV.cells (.s (.agg #[.int .i64 0,.int .i64 0,.slice Z1 0 0]))=[zI,zI,zN]:=rfl;simp only[k,Option.map_none,zad]at d;have A:zN.aU=true:=rfl;have n:zN.cells=[zN]:=rfl;simp only[Nat.reduceAdd,aI,xq_,hq_,abr,p,d,z,m,iR,k,Xy,Option.getD_none,Option.isSome_none,A,n]
  |some w=>
   simp only[k,Option.map_some,zad]at d;have hm:w.data.length<1000000000:=by
    have⟨j,C,_⟩:=Gh k;exact hd _ (List.mem_of_getElem? C)
   have m:=λH=>kC H w.data hm;simp only[Nat.reduceAdd,aI,xq_,hq_,abr,p,d,Row.av,m,iR,k,Option.getD_some,Option.isSome_some]
 ·simp only[List.mem_cons,List.not_mem_nil,zan]at o;rcases o with rfl|rfl
  ·exact mD (U7 _)
  ·exact fC
def LC(G:Good b H g){t:Turns}(h:g q=ZC (iU t))(ak:Int):cl 85 [.ref q 0 0,I ak] H=ZC (I (t.owner ak),H):=by
 refine bD W W (atJ _ _ _ _) ?_ fC;have⟨r,j,k,_⟩:=G.guard.map h (i:=0) W;have d:=k (.int .i64 0) ak Z0;rw[vk]at d;cases e:jw t.iI ak with
 |none=>
  simp only[e,Option.map_none,zad]at d;simp only[Int.reduceNeg,xq_,akI,j,d,Turns.owner,e,Option.getD_none]
 |some w=>
  simp only[e,Option.map_some,zad]at d;simp only[Int.reduceNeg,xq_,akI,j,d,Turns.owner,e,Option.getD_some]
def yu(G:Good b H g){t:Turns}(h:g q=ZC (iU t))(ak:Int):cl 225 [.ref q 0 0,I ak] H=ZC (B (t.owned ak),H):=by
 refine bD W W (aqh _ _ _ _) ?_ fC;have⟨r,j,k,_⟩:=G.guard.map h (i:=0) W;have d:=k (.int .i64 0) ak Z0;rw[vk]at d;cases e:jw t.iI ak with
 |none=>
  simp only[e,Option.map_none,zad]at d;simp only[xq_,abS,j,d,Turns.owned,e,Option.isSome_none]
 |some w=>
  simp only[e,Option.map_some,zad]at d;simp only[xq_,abS,j,d,Turns.owned,e,Option.isSome_some]
def JJ(w:Int × Int):Q AV:=[I w.1,I w.2]
def OQ {α β:Type}(f:α->β):∀(es:Q (Int × α)) (n:Int),jw (es.map λe=>(e.1,f e.2)) n=(jw es n).map f
 |[],_=>rfl
 |(k,v)::es,n=>by
  simp only[List.map_cons,jw];split
  ·rfl
  ·exact OQ f es n
def aqJ(G:Good b H g){t:Turns}(h:g q=ZC (iU t))(ak:Int):∃r x,ld (.ref q 0 1) H=ZC (.mp r,H)/\lk .i64 (.slice Z1 0 0) (.mp r) (I ak) ZV H=ZC (x,H)/\Own b H x 2 ((t.ws ak).flatMap JJ):=by
 have⟨r,k,_,m⟩:=G.maps h (i:=1) W;have⟨x,d,e,n⟩:=m (.slice Z1 0 0) ak;refine⟨r,x,k,n ZV,?_⟩;rw[OQ (λl:Q (Int × Int)=>l.flatMap λw=>[I w.1,I w.2])]at d e;simp only[show(λw:Int × Int=>[I w.1,I w.2])=JJ from W]at d e;cases j:jw t.wait ak with
 |none=>
  rw[j]at d;exact .inl ⟨d W,by simp[Turns.ws,j]⟩
 |some w=>
  rw[j]at e;have:=e _ W
  simpa [Turns.ws,j]using this
def xF(G:Good b H g){t:Turns}(h:g q=ZC (iU t))(ak:Int):cl 226 [.ref q 0 0,I ak] H=ZC (I (t.ws ak).length,H):=by
 refine bD W W (aqi _ _ _ _) ?_ fC;have⟨r,x,d,i,j⟩:=aqJ G.guard h ak;have e:=(j.is (n:=(t.ws ak).length) J (dF (enc:=JJ) (λ_=>rfl) _)).lnS;simp only[xq_,ajd,d,i,e]
def afE {e m by_ r ty:Nat}{y:AV}{H:ah}(b:H.get r=.blk 0 ty [])(d:aH H y m 0 []):app e m by_ (.sl r 0 0 m 0 0 Z0) y H=ZC (.sl r 0 0 m 0 0 Z0,H):=by
 have⟨g,h⟩:=d.wQ;simp only[app,g,h,dV];rw[YY ⟨O,W⟩];simp only[b];rw[YY ⟨zac,zac,O⟩,YY zac]
def U8(H:ah){l:Q Evn}(hl:l.length<1000000000){x:AV}(hx:aH H x 4 l.length (l.flatMap Evn.av))(hf:∀a:Evn,∀z∈Evn.av a,Frz 8 z)(ha:∀a:Evn,(Evn.av a).all AV.aU=Z0)(hm:∀a:Evn,(Evn.av a).length=4):∃y,cl 102 [x] H=ZC (y,H)/\∀H':ah,aH H' y 4 l.length (l.flatMap Evn.av):=by
 by_cases hz:x=zN
 ·subst hz;have h0:l=[]:=by
   have h1:=hx.2.2.2;exact List.eq_nil_of_length_eq_zero h1
  subst h0;refine⟨zN,gY W W (abm _ _ _ (r:=(zN,H.guard)) ?_) iF,λ_=>aH.nil⟩;have e:bi .eql 123 zN zN=ZC (B Z0):=by kernel_rfl
  simp only[xq_,WG,e]
 ·have e1:bi .eql 123 x zN=ZC (B ZV):=by
   have⟨_,hx⟩:=hx;cases x with
   |sl r g o m n c ex=>exact CY Tryz.underlying123
   |vs n m l=>exact uf Tryz.underlying123
   |s v=>
    cases v with
    |slice a b c=>
     cases a with
     |none=>obtain⟨rfl,rfl,_⟩:=hx;exact absurd W hz
     |some a=>exact hx.elim
    |_=>exact hx.elim
   |_=>exact hx.elim
  let H1:=H.guard.new (.blk 0 184 []);have x1:aH H1 x 4 l.length (l.flatMap Evn.av):=hx.guard.new _;by_cases h:l=[]
  ·subst h;have e2:=afE (e:=184) (by_:=32) (r:=H.next) (H:=H1) (aK W) x1;refine⟨.vs 0 4 [],gY W W (abm _ _ _ (r:=(.sl H.next 0 0 4 0 0 Z0,H1)) ?_) ?_,λ_=>aH.vs W⟩
   ·simp only[H1]at e2;simp only[xq_,WG,e1,Wp,zF,e2,Nat.zero_mul,Nat.zero_le];rfl
   ·refine kS (Nat.le_refl _) (cells:=[]) ?_ W;have:H1.get H.next=.blk 0 184 []:=aK W
    simp only[cZ,this];rfl
  ·have h0:l.length≠0:=λe=>h (List.eq_nil_of_length_eq_zero e);have e2:=tZ (e:=184) (by_:=32) (r:=H.next) (H:=H1) (aK W) x1 (E8 ha l) h0 (by unfold most;omega) (by unfold most;omega);refine⟨.vs l.length 4 (l.flatMap Evn.av),gY W W (abm _ _ _ (r:=(.sl (H.next+1) 0 0 4 l.length l.length ZV,H1.new (.blk 0 (184+gW) (l.flatMap Evn.av)))) ?_) ?_,λ_=>aH.vs (dF hm l)⟩
   ·have n1:H1.next=H.next+1:=rfl
    rw[n1]at e2;simp only[H1]at e2;simp only[xq_,WG,e1,Wp,zF,e2,Nat.zero_mul,Nat.zero_le];rfl
   ·refine kS (by omega) (cells:=l.flatMap Evn.av) ?_ (iM _ λz hz=>Xq hf l z hz _ _);have:(H1.new (.blk 0 (184+gW) (l.flatMap Evn.av))).get (H.next+1)=.blk 0 (184+gW) (l.flatMap Evn.av):=aK W;simp only[cZ,this];rw[YY ⟨zac,by rw[dF hm];omega⟩,List.drop_zero,List.take_of_length_le (by rw[dF hm];exact Nat.le_refl _)]
def acF {x:AV}{m n:Nat}{cells:Q AV}(h:∀H':ah,aH H' x m n cells)(d:∀z∈cells,Frz 8 z):Frz 9 x:=by
 have e:=h ah.empty;have⟨i,b⟩:=e;cases x with
 |sl r g o m n c ex=>exact absurd b.2.2.1.1 (by simp[ah.empty])
 |vs n m l=>obtain⟨_,_,rfl⟩:=b;exact aht d
 |s v=>exact fC
 |_=>exact b.elim
def zQ(G:Good b H g){l:Q Evn}(h:g q=ZC (mM l))(m:l.length<1000000):∃x,cl 55 [.ref q 0 0] H=ZC (x,H)/\∀H':ah,aH H' x 4 l.length (l.flatMap Evn.av):=by
 have⟨x,j,c⟩:=G.guard.seq h (i:=0) W;have⟨y,e,d⟩:=U8 H.guard (l:=l) V (c.is J (dF oC l)) acd zD oC;refine⟨y,bD W W (atf _ _ _) ?_ (acF d λz k=>?_),d⟩
 ·simp only[xq_,an1,j,e]
 ·have⟨a,_,ha⟩:=List.mem_flatMap.1 k;exact acd a z ha
def ald(G:Good b H g){a:Nat->Nat}{c:Cfg}{me:Int}{n:Node}(N:qO g a c me n)(hd:∀e∈n.home.dS,e.2.data.length<1000000000)(ak:Int):cl 80 [.ref (a 0) 0 0,I ak] H=ZC (.tup [.agg (iR n.home.dS ak).av,B (jw n.home.dS ak).isSome],H):=by
 have⟨j,q,u,k,m,v⟩:=N;refine bD W W (atE _ _ _ _) ?_ (wS λx h=>?_)
 ·have d:=G.guard.new (.blk 0 95 [zI,zI,zN]);have o:=d.load j (i:=11) (x:=.ref (a 3) 0 0) W;have p:=d.load k (i:=0) (x:=.ref (a 4) 0 0) W;have e:=ajr d m hd ak;simp only[Nat.reduceAdd,aI,xq_,hq_,aoh,o,p,e]
 ·simp only[List.mem_cons,List.not_mem_nil,zan]at h;rcases h with rfl|rfl
  ·exact mD (U7 _)
  ·exact fC
def acG(G:Good b H g){a:Nat->Nat}{c:Cfg}{me:Int}{n:Node}(N:qO g a c me n)(ak:Int):cl 43 [.ref (a 0) 0 0,I ak] H=ZC (I (n.home.bn.owner ak),H):=by
 have⟨d,o,p,h,q,j⟩:=N;refine bD W W (as6 _ _ _ _) ?_ fC;have k:=G.guard.load d (i:=11) (x:=.ref (a 3) 0 0) W;have m:=G.guard.load h (i:=1) (x:=.ref (a 5) 0 0) W;have e:=LC G.guard j ak;simp only[xq_,anU,k,m,e]
def Gj(G:Good b H g){A:Adr}{m:dh}(M:gy g A m)(o:m.aF.length<1000)(i:Int):cl 25 [.ref A.jL 0 0,I i] H=ZC (if 0<=i/\i<m.aF.length then .ref (A.N i.toNat 0) 0 0 else zP,H):=by
 have⟨x,p,c⟩:=G.guard.seq M.jL (i:=10) W;have e:=c.is (n:=m.aF.length) J (acs _ _);have q:=e.lnS;have d:bV H.guard H.next 9 (if 0<=i/\i<m.aF.length then .ref (A.N i.toNat 0) 0 0 else zP)=ZC (if 0<=i/\i<m.aF.length then .ref (A.N i.toNat 0) 0 0 else zP):=by
  split
  ·rename_i h;have⟨n,o⟩:∃n,m.aF[i.toNat]?=ZC n:=⟨_,List.getElem?_eq_getElem V⟩
   have:=G.lt (M.bC _ n o).1;rw[bV];simp only[this,zad]
  ·exact iF
 refine gY W W (asT _ _ _ _ (r:=(_,H.guard)) ?_) d;by_cases j:i<0
 ·have:¬(0<=i/\i<m.aF.length):=V
  rw[F this];simp only[xq_,ae6,j]
 ·by_cases u:(m.aF.length:Int)<=i
  ·have:¬(0<=i/\i<m.aF.length):=V
   rw[F this];simp only[xq_,ae6,j,p,q,u]
  ·have:0<=i/\i<m.aF.length:=V
   rw[y this];have w:=e.ix (k:=.i64) (i:=i) V V;have v:=e.ld (i:=i.toNat) V;rw[acu V]at v;simp only[xq_,ae6,j,p,q,u,w,v]
end
def xG:Q (Q Pkt)->Nat->Int->M (Nat × Int)
 |[],_,_=>Z1
 |l::ls,j,at_=>if 0<=at_/\at_<l.length then ZC (j,at_)else xG ls (j+1) (at_-l.length)
def uo:∀{ls:List (List Pkt)} {j:Nat} {at_:Int} {b:Nat} {k:Int},xG ls j at_=some (b,k)->j<=b/\∃l,ls[b-j]?=some l/\0<=k/\k<l.length/\0<=at_/\ls.flatten[at_.toNat]?=l[k.toNat]?
 |[],_,_,_,_,h=>by cases h
 |l::ls,j,at_,b,k,h=>by
  simp only[xG]at h;split at h
  ·rename_i hc;cases h;refine⟨Nat.le_refl _,l,O,hc.1,hc.2,hc.1,?_⟩;rw[List.flatten_cons,List.getElem?_append_left V]
  ·rename_i hc;obtain⟨n,d,e,g,i,o,m⟩:=uo h;refine⟨V,d,by rw[show b-j=(b-(j+1))+1 by omega];simpa using e,g,i,V,?_⟩;rw[List.flatten_cons,List.getElem?_append_right V,<-m]
   congr 1;omega
def Dt:∀{ls:Q (Q Pkt)} {j:Nat} {at_:Int},xG ls j at_=Z1->at_<0∨(ls.flatten.length:Int)<=at_
 |[],_,_,_=>by simp;omega
 |l::ls,j,at_,h=>by
  simp only[xG]at h;split at h
  ·cases h
  ·rename_i hc;have:=Dt h;rw[List.flatten_cons,List.length_append];omega
def Du:∀l:Q Port,(l.flatMap λp=>[p.rq,p.an]).flatten=l.flatMap λp=>p.rq++p.an
 |[]=>rfl
 |p::l=>by simp[Du l]
def kU(P:Nat->Nat->Nat)(j:Nat):Q AV:=[.ref (P (j / 2) (if j % 2=0 then 0 else 2)) 0 0,.ref (P (j / 2) (if j % 2=0 then 1 else 3)) 0 0]
def Rq {P:Nat->Nat->Nat}{n j:Nat}(h:j<2*n):((iV P n).drop (j*2)).take 2=kU P j:=by
 have hi:j / 2<n:=V
 have b:=vg (m:=4) (enc:=λi=>oH (P i)) (λ_=>rfl) (List.range n) (j / 2) (j / 2) (List.getElem?_range hi);rcases Nat.mod_two_eq_zero_or_one j with d|d
 ·have e:((iV P n).drop (j*2)).take 2=(((iV P n).drop (j / 2*4)).take 4).take 2:=by
   rw[List.take_take,show j / 2*4=j*2 by omega];rfl
  rw[e];refine(zaj (List.take 2) b).trans ?_;simp[kU,d,oH]
 ·have e:((iV P n).drop (j*2)).take 2=((((iV P n).drop (j / 2*4)).take 4).drop 2).take 2:=by
   rw[List.drop_take,List.drop_drop,List.take_take,show j / 2*4+2=j*2 by omega];rfl
  rw[e];refine(zaj (λl=>(List.drop 2 l).take 2) b).trans ?_;simp[kU,d,oH]
def acH {g:bG}{f:Nat}{P:Nat->Nat->Nat}{c:Cfg}{fab:Fab}(F:iG g f P c fab){j:Nat}{l:Q Pkt}(h:fab.jy[j]?=ZC l):
  g (P (j / 2) (if j % 2=0 then 0 else 2))=ZC (nP l c.out):=by
 have d:j<2*fab.l.length:=by
  have:=(List.getElem?_eq_some_iff.1 h).1
  rwa [Fab.jy,qP]at this
 have⟨k,a,a',e,b,i⟩:=F.ajo d;rw[h]at e;cases e;rw[Rq d]at b;simp only[kU,List.cons.injEq,AV.ref.injEq,zau]at b;rw[b.1];exact i
section
variable {b:Nat}{H:ah}{g:bG}{f:Nat}{P:Nat->Nat->Nat}{c:Cfg}{fab:Fab}
def xH(P:Nat->Nat->Nat):M (Nat × Int)->AV
 |some (j,k)=>.tup [.agg (kU P j),I k,B Z0]
 |none=>.tup [.agg [zP,zP],I 0,B ZV]
def acI(G:Good b H g)(F:iG g f P c fab)(hn:fab.l.length<1000)(h0:fab.l.length≠0)(hr:∀l∈fab.jy,l.length<1000)(at_:Int)(h64:qJ at_):
  cl 69 [.ref f 0 0,I at_] H=ZC (xH P (xG fab.jy 0 at_),H):=by
 have hpl:fab.jy.length=2*fab.l.length:=qP _;have hpx:(iV P fab.l.length).length=(2*fab.l.length)*2:=by rw[iV,pY];omega
 let H0:=H.guard.new (.blk 0 121 [zP,zP]);have ep:=Xv (G.guard.new (.blk 0 121 [zP,zP])) F hn h0;have xs:∀H':ah,aH H' (.vs (2*fab.l.length) 2 (iV P fab.l.length)) 2 (2*fab.l.length) (iV P fab.l.length):=λH'=>aH.vs hpx;let fnd:=xG fab.jy 0 at_;have key:∀k j,j+k=2*fab.l.length->∀(Hi:ah) (a:Int),H0.next<=Hi.next->Hi.base=H.next->(∀r,r<H0.next->Hi.get r=H0.get r)->qJ a->
   ((0<=a/\fnd=xG (fab.jy.drop j) j a)∨((a<0∨9223372036854775808-1000-1000*(j:Int)<=a)/\fnd=Z1))->
   (Oh cl [I a,.ref H.next 0 0,.vs (2*fab.l.length) 2 (iV P fab.l.length),I (2*fab.l.length:Nat),I j] Hi).map Prod.fst=ZC (xH P fnd):=by
  intro k
  induction k with
  |zero=>
   intro j hj Hi a n1 b1 s1 ha hc;have h1:¬(j:Int)<(2*fab.l.length:Nat):=by omega
   have hf:fnd=none:=by
    rcases hc with⟨_,hc⟩|⟨_,hc⟩
    ·rw[hc,List.drop_of_length_le (by omega)];rfl
    ·exact hc
   have g0:Hi.get H.next=.blk 0 121 [zP,zP]:=by rw[s1 _ (by show H.next<H.next+1;omega)];exact aK W
   have hb1:Hi.base<=H.next:=by omega
   have e0:bd 121 []=ZC (.agg [zP,zP]):=by simp only[xq_,ag1,jf,fO]
   have e1:=ahC (H:=Hi) (r:=H.next) (off:=0) (n:=2) (v:=.agg [zP,zP]) g0 hb1 W W (by decide);rw[hf,abj];have e2:=iE (H:=Hi.put H.next (.blk 0 121 (aI [zP,zP] 0 [zP,zP]))) (r:=H.next) (off:=0) (n:=2) (g:=0) (ty:=121) (xs:=[zP,zP]) Io (by decide);have hs:aI [zP,zP] 0 [zP,zP]=[zP,zP]:=rfl;simp only[eU,hs]at e1 e2;simp only[Nat.reduceAdd,aI,xq_,hq_,h1,e0,e1,e2,xH]
  |succ k ih=>
   intro j hj Hi a n1 b1 s1 ha hc;have h1:(j:Int)<(2*fab.l.length:Nat):=by omega
   have h6:(j:Int)+1=((j+1:Nat):Int):=by omega
   have h7:=wrap_i64 (a:=((j+1:Nat):Int)) (by omega) (by omega);have a1:=(xs Hi).ix (k:=.i64) (i:=(j:Int)) (by omega) h1;rw[Int.toNat_natCast]at a1;have a3:=(xs Hi).lda (i:=j) (by omega);rw[Rq (by omega)]at a3;have⟨l,hl⟩:∃l,fab.jy[j]?=ZC l:=⟨_,List.getElem?_eq_getElem (by omega)⟩
   have p3:=acH F hl;have hlen:=hr l (List.mem_of_getElem? hl);let H1:=Hi.new (.blk 0 121 (kU P j));have G1:Good b H1 g:=(((G.guard.new _).ext n1 s1).new _)
   have e3:=aco G1 p3;have sb:Hi.base<=Hi.next:=by have:H.next+1<=Hi.next:=n1;omega
   have lt0:H.next<Hi.next:=n1
   have hd:fab.jy.drop j=l::fab.jy.drop (j+1):=by
    rw[List.drop_eq_getElem_cons (by omega)];rw[List.getElem?_eq_getElem (by omega)]at hl;rw[Option.some.inj hl]
   rw[abj];simp only[H1,kU]at e3;by_cases hin:0<=a/\a<l.length
   ·have hf:fnd=ZC (j,a):=by
     rcases hc with⟨_,hc⟩|⟨hc,_⟩
     ·rw[hc,hd,xG,YY hin]
     ·omega
    have g0:Hi.get H.next=.blk 0 121 [zP,zP]:=by rw[s1 _ (by show H.next<H.next+1;omega)];exact aK W
    have hb1:Hi.base<=H.next:=by omega
    have e1:=ahC (H:=Hi.new (.blk 0 121 (kU P j))) (r:=H.next) (off:=0) (n:=2) (v:=.agg (kU P j)) (by rw[aZ lt0];exact g0) (by rw[iO];exact hb1) W W (by decide);have e2:=iE (H:=(Hi.new (.blk 0 121 (kU P j))).put H.next (.blk 0 121 (aI [zP,zP] 0 (kU P j)))) (r:=H.next) (off:=0) (n:=2) (g:=0) (ty:=121) (xs:=aI [zP,zP] 0 (kU P j)) Io (by simp[kU,aI]);simp only[eU,kU]at e1 e2;have hs:∀x y:AV,aI [zP,zP] 0 [x,y]=[x,y]:=λ_ _=>rfl;have h0:=hin.1;have h2:=hin.2;rw[hf];simp only[hs]at e1 e2;simp only[Nat.reduceAdd,aI,xq_,hq_,h1,a1,a3,kU,sb,h0,h2,e3,e1,e2,xH]
   ·have hw:∃a',IntKind.wrap .i64 (a-l.length)=a'/\qJ a'/\((0<=a'/\fnd=xG (fab.jy.drop (j+1)) (j+1) a')∨((a'<0∨9223372036854775808-1000-1000*((j+1:Nat):Int)<=a')/\fnd=Z1)):=by
     rcases hc with⟨hc0,hc⟩|⟨hc,hn⟩
     ·refine⟨a-l.length,wrap_i64 (by omega) (by have:=ha.2;omega),⟨by omega,by have:=ha.2;omega⟩,.inl ⟨by omega,?_⟩⟩;rw[hc,hd,xG,Ys hin]
     ·by_cases hlow:-9223372036854775808<=a-l.length
      ·refine⟨a-l.length,wrap_i64 hlow (by have:=ha.2;omega),⟨hlow,by have:=ha.2;omega⟩,.inr ⟨?_,hn⟩⟩;rcases hc with hc|hc
       ·left;omega
       ·right;omega
      ·refine⟨a-l.length+18446744073709551616,?_,⟨by have:=ha.1;omega,by omega⟩,.inr ⟨.inr (by have:=ha.1;omega),hn⟩⟩;have:a-l.length+18446744073709551616=IntKind.wrap .i64 (a-l.length):=by
        simp[IntKind.wrap,IntKind.signed,IntKind.bits];have:=ha.1;omega
       exact this.symm
    have⟨a',w1,w2,w3⟩:=hw;have r1:=ih (j+1) (by omega) (Hi.new (.blk 0 121 (kU P j))) a' (Nat.le_succ_of_le n1) b1 (λr hr=>by rw[aZ (by omega)];exact s1 r hr) w2 w3;simp only[kU]at r1;by_cases h0:0<=a
    ·have h2:¬a<l.length:=by omega
     simp only[Nat.reduceAdd,aI,xq_,hq_,h1,a1,a3,kU,sb,h0,h2,e3,lF,w1,bM,h6,h7,r1]
    ·simp only[Nat.reduceAdd,aI,xq_,hq_,h1,a1,a3,kU,sb,h0,e3,lF,w1,bM,h6,h7,r1]
 have r1:=key (2*fab.l.length) 0 (by omega) H0 at_ (Nat.le_refl _) W (λ_ _=>rfl) h64 (by
  by_cases h:0<=at_
  ·exact .inl ⟨h,W⟩
  ·refine .inr ⟨.inl (by omega),?_⟩;cases hf:xG fab.jy 0 at_ with
   |none=>exact hf
   |some r=>
    have⟨j,k⟩:=r;have⟨_,l,_,_,_,h5,_⟩:=uo hf;omega)
 have hz:∀Hz,bV Hz H.next 9 (xH P fnd)=ZC (xH P fnd):=by
  intro Hz;cases hf:fnd with
  |none=>exact wS (λx hx=>by
    simp only[List.mem_cons,List.not_mem_nil,zan]at hx;rcases hx with rfl|rfl|rfl
    ·exact mD (λx hx=>by
      simp only[List.mem_cons,List.not_mem_nil,zan]at hx;rcases hx with rfl|rfl <;> exact fC)
    ·exact fC
    ·exact fC) Hz _
  |some r=>
   have⟨j,k⟩:=r;have⟨_,l,hl,_⟩:=uo hf;rw[Nat.sub_zero]at hl;have hj:j / 2<fab.l.length:=by
    have:=(List.getElem?_eq_some_iff.1 hl).1;omega
   have l1:=F.lt G (i:=j / 2) (s:=if j % 2=0 then 0 else 2) hj (by split <;> omega);have l2:=F.lt G (i:=j / 2) (s:=if j % 2=0 then 1 else 3) hj (by split <;> omega);refine KR λx hx=>?_;simp only[List.mem_cons,List.not_mem_nil,zan]at hx;rcases hx with rfl|rfl|rfl
   ·refine KQ λx hx=>?_;simp only[kU,List.mem_cons,List.not_mem_nil,zan]at hx;rcases hx with rfl|rfl
    ·rw[bV];exact YY l1
    ·rw[bV];exact YY l2
   ·exact iF
   ·exact iF
 cases hs:YK cl (.ref f 0 0) (I at_) H.guard with
 |none=>
  exfalso;have e2:=(xs H0).lnS;simp only[H0]at ep e2 r1;have:(YK cl (.ref f 0 0) (I at_) H.guard).map Prod.fst=ZC (xH P fnd):=by
   simp only[xq_,YK,ep,e2];exact r1
  rw[hs]at this;cases this
 |some r=>
  have e2:=(xs H0).lnS;simp only[H0]at ep e2 r1;have:(YK cl (.ref f 0 0) (I at_) H.guard).map Prod.fst=ZC (xH P fnd):=by
   simp only[xq_,YK,ep,e2];exact r1
  rw[hs]at this;simp only[Option.map_some,Option.some.injEq]at this;have⟨v,Hz⟩:=r;simp only at this;subst this;exact gY W W (att _ _ _ _ hs) (hz Hz)
def Fab.pkt(f:Fab)(at_:Int):M Pkt:=if at_<0 then Z1 else f.all[at_.toNat]?
def acJ(G:Good b H g)(F:iG g f P c fab)(y:fab.l.length<1000)(h0:fab.l.length≠0)(m:∀l∈fab.jy,l.length<1000/\∀p∈l,p.data.length<1000000000)(at_:Int)(n:qJ at_):
  cl 28 [.ref f 0 0,I at_] H=ZC (iJ (fab.pkt at_),H):=by
 have w:=G.guard.new (.blk 0 81 [zI,zI,zI,zI,zI,zI,zI,zB,zN]);have e:=acI w F y h0 (λl z=>(m l z).1) at_ n;have d:fab.jy.flatten=fab.all:=Du fab.l;refine bD W W (asU _ _ _ _) ?_ (Dl _);cases h:xG fab.jy 0 at_ with
 |none=>
  rw[h]at e;have q:fab.pkt at_=none:=by
   have:=Dt h;rw[d]at this;unfold Fab.pkt;split
   ·rfl
   ·rw[List.getElem?_eq_none V]
  have A:([zP,zP]:Q AV).all AV.aU=true:=rfl;simp only[Nat.reduceAdd,aI,xq_,hq_,akt,e,xH,A,zC,jf,dX,q,iJ,fM,Option.getD_none,Option.isSome_none,Bool.not_false]
 |some r=>
  have⟨j,k⟩:=r;rw[h]at e;have⟨_,l,i,E,K,L,C⟩:=uo h;rw[Nat.sub_zero]at i;have D:=acH F i;have q:fab.pkt at_=l[k.toNat]?:=by
   unfold Fab.pkt;rw[Ys V,<-d,C]
  have u:=λo=>ab2 (w.new o) D (m l (List.mem_of_getElem? i)).1 (m l (List.mem_of_getElem? i)).2 k;have hk:¬k<0:=V
  have ha:¬at_<0:=V
  simp only[hk,zaf]at u;rw[q];have⟨p,v⟩:∃p,l[k.toNat]?=ZC p:=⟨_,List.getElem?_eq_getElem V⟩
  rw[v]at u ⊢;simp only[Nat.reduceAdd,aI,xq_,hq_,akt,e,xH,kU,ha,u,iJ,Option.getD_some,Option.isSome_some,Bool.not_true]
end
def Own.name {b:Nat}{H:ah}{m:Nat}{x:AV}{l:Q AV}(c:Own b H x m l){r:Nat}(h:iH x=ZC r):b<=r/\r<H.next:=by
 rcases c with⟨rfl,_⟩|⟨r',g,off,n',d,ex,e,all,rfl,i,j,_⟩
 ·cases h
 ·simp only[iH,Option.some.injEq]at h;omega
def acK(H:ah)(ak fwd back:Int)(bJ:Bool){l:Q Int}(b:l.length<1000000000){x:AV}(d:nH H x l):cl 236 [I ak,I fwd,I back,B bJ,x] H=ZC (.agg (Ent.mk fwd back ak 0 bJ l).av,H):=by
 refine bD W W (aqt _ _ _ _ _ _ _) ?_ (mD (OJ _));have e:=λo=>Jc (H.guard.new o) b (d.guard.new o);simp only[Nat.reduceAdd,Nat.reduceLeDiff,aI,xq_,hq_,ajg,e,asy,aaB,jf,fO,amV,agZ,Ent.av]
def aub(H:ah)(e:Ent)(w:Int):cl 222 [.agg e.av,I w] H=ZC (B (u (0<=w/\w<e.data.length)),H.new (.blk 0 100 e.av)):=by
 refine bg W W (ajb _ _ _ _ ?_);have d:=λH=>(gJ H e.data).lnS;by_cases b:0<=w
 ·simp only[Nat.reduceLT,xq_,hq_,QZ,aC,Ent.av,b,d]
 ·simp only[Nat.reduceLT,xq_,hq_,QZ,aC,Ent.av,b,false_and]
def ale(H:ah)(e:Ent)(w:Int):cl 189 [.agg e.av,I w] H=ZC (I (e.word w),H):=by
 refine bD W W (apI _ _ _ _) ?_ fC;have d:=λH=>aub H e w;by_cases b:0<=w/\w<e.data.length
 ·have h:=λH=>(gJ H e.data).ix (k:=.i64) (i:=w) b.1 b.2;have g:=λH=>(gJ H e.data).ld (i:=w.toNat) V;have j:(e.data.map I)[w.toNat]?=ZC (I (e.word w)):=by
   unfold Ent.word;rw[y b,List.getElem?_map,List.getElem?_eq_getElem V,List.getD_eq_getElem?_getD,List.getElem?_eq_getElem V];rfl
  rw[j]at g;have m:e.av[5]?=ZC (dat e.data):=rfl;simp only[Nat.reduceLT,xq_,hq_,abK,aC,d,b,h,g,m,Bool.not_true]
 ·have:e.word w=0:=by unfold Ent.word;rw[F b]
  rw[this];simp only[Nat.reduceLT,xq_,hq_,abK,aC,d,b,Bool.not_false]
section
variable {b:Nat}{H:ah}{g:bG}{q:Nat}
def XA(G:Good b H g){c:Cache}(h:g q=some (dD c))(hl:c.l.length<1000000)(hs0:1<=c.sets)(ak:Int):cl 201 [.ref q 0 0,I ak] H=some (vsl 6 Ent.av (c.vw ak),H):=by
 obtain⟨x,hx,cx⟩:=G.guard.seq h (i:=0) rfl;have hs:=cx.is (n:=c.l.length) (by decide) (dF dK c.l);have e2:=hs.lnS;let p:Ent->Bool:=λe=>decide (0<=ak) && decide (e.ak.tmod c.sets=ak.tmod c.sets)
 let F:Nat->List Ent:=λj=>(c.l.take j).filter p
 have hF:∀j,(F j).length<=j:=λj=>Nat.le_trans (List.length_filter_le _ _) (by rw[List.length_take];omega);have key:∀k j,j+k=c.l.length->∀Hi t,Step H.next H.guard Hi->Own H.next Hi t 6 ((F j).flatMap Ent.av)->(F j=[]->t=zN)->
   ∃t' H',FT cl [.ref q 0 0,I ak,t,x,I c.l.length,I j] Hi=some (t',H')/\Own H.next H' t' 6 ((c.vw ak).flatMap Ent.av)/\(c.vw ak=[]->t'=zN):=by
  intro k
  induction k with
  |zero=>
   intro j hj Hi t s o z;have h1:¬(j:Int)<c.l.length:=by omega
   have:F j=c.vw ak:=by
    simp only[F,Cache.vw,p];rw[List.take_of_length_le (by omega)]
   rw[this]at o z;refine⟨t,Hi,?_,o,z⟩;rw[Xg];simp only[xq_,h1]
  |succ k ih=>
   intro j hj Hi t s o z;have h1:(j:Int)<c.l.length:=by omega
   have h6:(j:Int)+1=((j+1:Nat):Int):=by omega
   have h7:=wrap_i64 (a:=((j+1:Nat):Int)) (by omega) (by omega);obtain⟨e,he⟩:∃e,c.l[j]?=some e:=⟨_,List.getElem?_eq_getElem (by omega)⟩
   have hsi:aH Hi x 6 c.l.length (c.l.flatMap Ent.av):=hs.iD s.next λr _ hr=>s.low r hr
   have s1:=hsi.ix (k:=.i64) (i:=(j:Int)) (by omega) h1;rw[Int.toNat_natCast]at s1;have s2:=jT dK hsi he;have bi:Hi.base=H.next:=s.base.trans amc
   have ni:H.next<=Hi.next:=s.next
   have hbase:Hi.base<=Hi.next:=by omega
   have Gi:Good b Hi g:=G.guard.ext s.next s.low
   have l1:=(Gi.new (.blk 0 100 e.av)).load h (i:=1) (x:=I c.sets) rfl;have r0:c.sets≠0:=by omega
   have hFs:F (j+1)=F j++if p e=true then [e]else []:=by
    simp only[F,List.take_add_one,he,Option.toList_some,List.filter_append]
    congr 1
    cases hp:p e <;> simp[hp]
   rw[Xg];by_cases hc:0<=ak/\e.ak.tmod c.sets=ak.tmod c.sets
   ·have hp:p e=true:=by simp only[p,hc.1,hc.2,decide_true,Bool.and_self]
    rw[hp,if_pos rfl]at hFs;have hm:=hF j;obtain⟨t1,H2,a1,a2,a3⟩:=((o.new (.blk 0 100 e.av)).new (.blk 0 100 e.av)).step (e:=100) (by_:=64) (n:=(F j).length) (by simp only[eu];omega) (by simp only[iO];omega) (by decide) (dF dK _) (jZ (ex:=true) (n:=1) (m:=6) (l:=e.av) rfl) (jR e) (by unfold most;omega) (by unfold most;omega);have a2':Own H.next H2 t1 6 ((F (j+1)).flatMap Ent.av):=by rw[hFs,List.flatMap_append];simpa using a2
    obtain⟨t',H',r1,r2⟩:=ih (j+1) (by omega) H2 t1 (((s.trans (Step.new _ ni)).trans (Step.new _ (by simp only[eu];omega))).trans a3) a2' (λhz=>by rw[hFs]at hz;simp at hz);refine⟨t',H',?_,r2⟩;simp only[eu]at a1;have lf:e.av[2]?=some (I e.ak):=rfl;simp only[Nat.reduceAdd,Nat.reduceLeDiff,aI,xq_,hq_,h1,s1,s2,hbase,hc,lf,l1,oq r0,Bl,aay,Nat.one_mul,jE (m:=6) (z:=[zI,zI,zI,zI,zB,zN]) (v:=.agg e.av) rfl rfl (jR e),a1,bM,h6,h7];exact r1
   ·have hp:p e=false:=by
     simp only[p];by_cases h0:0<=ak
     ·have:¬e.ak.tmod c.sets=ak.tmod c.sets:=λh=>hc ⟨h0,h⟩;simp[this]
     ·simp[h0]
    rw[hp,if_neg (by simp),List.append_nil]at hFs;obtain⟨t',H',r1,r2⟩:=ih (j+1) (by omega) (Hi.new (.blk 0 100 e.av)) t (s.trans (Step.new _ ni)) (by rw[hFs];exact o.new _) (by rw[hFs];exact z);refine⟨t',H',?_,r2⟩;have lf:e.av[2]?=some (I e.ak):=rfl;by_cases h0:0<=ak
    ·have hne:¬e.ak.tmod c.sets=ak.tmod c.sets:=λh=>hc ⟨h0,h⟩;simp only[Nat.reduceAdd,aI,xq_,hq_,h1,s1,s2,hbase,h0,hne,lf,l1,oq r0,Bl,bM,h6,h7,r1]
    ·simp only[Nat.reduceAdd,aI,xq_,hq_,h1,s1,s2,hbase,h0,Bl,bM,h6,h7,r1]
 obtain⟨t',H',r1,r2,r3⟩:=key c.l.length 0 (by omega) H.guard zN (Step.refl _ _) (.inl ⟨rfl,rfl⟩) (λ_=>rfl);refine gY rfl rfl (ap0 _ _ _ _ (r:=(t',H')) ?_) ?_
 ·simp only[xq_,ai2,hx,e2];exact r1
 ·by_cases hz:c.vw ak=[]
  ·rw[r3 hz,hz,gu];exact iF
  ·rw[EZ hz];refine uj r2 (by decide) (dF dK _) (λy hy=>?_) (λe=>hz (List.eq_nil_of_length_eq_zero e));obtain⟨a,_,ha⟩:=List.mem_flatMap.1 hy;exact OJ (d:=6) a y ha _ _
def Rt(G:Good b H g){c:Cache}(h:g q=ZC (dD c))(m:c.l.length<1000000)(j:1<=c.sets)(ak:Int):cl 151 [.ref q 0 0,I ak] H=ZC (B (c.full ak),H):=by
 refine bD W W (apj _ _ _ _) ?_ fC;have d:=Jd G.guard h m ak;have n:=XA G.guard.guard h m j ak;have o:=(Ig dK H.guard (c.vw ak)).lnS;have p:=G.guard.load h (i:=2) (x:=I c.ways) W;have e:(c.find ak).isNone=(c.at_ ak).isNone:=by
  rw[show c.find ak=(c.at_ ak).bind λi=>c.l[i]? from(sD c.l).symm];cases ha:c.at_ ak with
  |none=>rfl
  |some i=>
   have hi:i<c.l.length:=List.findIdx?_eq_some_iff_findIdx_eq.1 ha |>.1
   simp[List.getElem?_eq_getElem hi]
 cases ha:c.at_ ak with
 |none=>
  rw[ha]at d e;have k:yM (Z1:M Nat)=-1:=rfl;rw[k]at d;simp only[Int.reduceLT,Int.reduceNeg,xq_,abB,d,n,o,p,Cache.full,e,Option.isNone_none,Bool.true_and]
 |some i=>
  rw[ha]at d e;have k:yM (ZC i)=(i:Int):=rfl;rw[k]at d;have u:¬(i:Int)<0:=V
  simp only[xq_,abB,d,u,Cache.full,e,Option.isNone_some,Bool.false_and]
end
def afF(H:ah)(a e:Ent)(h:qJ (a.used-e.used)):cl 203 [.agg a.av,.agg e.av] H=ZC (I (a.used-e.used),H):=by
 refine bD W W (ap2 _ _ _ _) ?_ fC;have w:=wrap_i64 h.1 h.2;simp only[Nat.reduceLT,xq_,hq_,ai5,aC,Ent.av,lF,w]
abbrev ajs(m:Ent)(l:List Ent):Ent:=l.foldl (λm x=>if x.used<m.used then x else m) m
def YU(H:ah)(hb:H.base<=H.next){a:Ent}{l:Z2 Ent}(K:l.length<1000000)(y:∀e∈a::l,0<=e.used/\e.used<1000000000):
  ∃H',cl 202 [vsl 6 Ent.av (a::l),.fn (.func 203) [] []] H=ZC (.agg (ajs a l).av,H'):=by
 have⟨L,u⟩:∃L,L=a::l:=⟨_,W⟩
 have n:=λH=>Ig dK H L;have D:L.length=l.length+1:=by rw[u];rfl
 rw[<-u]at y ⊢;let b:Ent->ah:=λm=>(H.new (.blk 0 100 [zI,zI,zI,zI,zB,zN])).new (.blk 0 100 m.av)
 have key:∀k j,j+k=L.length->∀m,m∈L->
   ∃H',FU cl [vsl 6 Ent.av L,.fn (.func 203) [] [],.ref H.next 0 0,.ref (H.next+1) 0 0,I j] (b m)=ZC (.agg (ajs m (L.drop j)).av,H'):=by
  intro k
  induction k with
  |zero=>
   intro j E m hm;have o:¬(j:Int)<L.length:=V
   have d:=(n (b m)).lnS;have hd:L.drop j=[]:=List.drop_of_length_le V;refine⟨(H.new (.blk 0 100 m.av)).new (.blk 0 100 m.av),?_⟩;rw[Xh,hd];simp only[b]at d ⊢;simp only[Nat.reduceAdd,aI,xq_,hq_,d,o,hb,ajs,List.foldl_nil]
  |succ k z=>
   intro j E m hm;have o:(j:Int)<L.length:=V
   have A:(j:Int)+1=((j+1:Nat):Int):=V
   have C:=wrap_i64 (a:=((j+1:Nat):Int)) V V;have⟨e,v⟩:∃e,L[j]?=ZC e:=⟨_,List.getElem?_eq_getElem V⟩
   have d:=(n (b m)).lnS;have h:=(n (b m)).ix (k:=.i64) (i:=(j:Int)) V o;rw[Int.toNat_natCast]at h;have p:=jT dK (n (b m)) v;have M:=y _ (List.mem_of_getElem? v);have Q:=y _ hm;have w:qC Tryz.prog cl (.fn (.func 203) [] []) [.agg e.av,.agg m.av] (b m)=ZC (I (e.used-m.used),b m):=by
    rw[ug Z];exact afF _ e m ⟨V,V⟩
   have hd:L.drop j=e::L.drop (j+1):=by
    rw[List.drop_eq_getElem_cons V];rw[List.getElem?_eq_getElem V]at v;rw[Option.some.inj v]
   rw[Xh,hd];by_cases hc:e.used<m.used
   ·have q:e.used-m.used<0:=V
    have⟨H',g⟩:=z (j+1) V e (List.mem_of_getElem? v);refine⟨H',?_⟩;simp only[b]at d h p w g ⊢;simp only[Nat.reduceAdd,aI,xq_,hq_,d,o,h,p,w,q,hb,FV,bM,A,C,ajs,List.foldl_cons,hc];exact g
   ·have q:¬e.used-m.used<0:=V
    have⟨H',g⟩:=z (j+1) V m hm;refine⟨H',?_⟩;simp only[b]at d h p w g ⊢;simp only[Nat.reduceAdd,aI,xq_,hq_,d,o,h,p,w,q,hb,FV,bM,A,C,ajs,List.foldl_cons,hc];exact g
 have⟨H',g⟩:=key l.length 1 V a (by rw[u];simp);refine⟨H',bg W W (ap1 _ _ _ _ ?_)⟩;let H1:=H.new (.blk 0 100 [zI,zI,zI,zI,zB,zN]);have d:=(n H1).lnS;have o:¬(L.length:Int)<1:=V
 have h:=(n H1).ix (k:=.i64) (i:=(0:Int)) V V;have p:=jT dK (n H1) (i:=0) (a:=a) (by rw[u];rfl);rw[show((0:Int).toNat)=0 from W]at h;have F:L.drop 1=l:=by rw[u];rfl
 rw[F]at g;simp only[b]at g;simp only[H1]at d h p;have G:((1:Nat):Int)=1:=rfl;rw[G]at g;simp only[Nat.reduceAdd,aI,xq_,hq_,ai4,Ot,d,o,h,p,hb];exact g
section
variable {b:Nat}{H:ah}{g:bG}{q:Nat}
def alf(c:Cache)(ak:Int):∀e∈c.vw ak,e∈c.l:=λe b=>(List.mem_filter.1 b).1
def U9(G:Good b H g){c:Cache}(h:g q=ZC (dD c))(o:c.l.length<1000000)(m:1<=c.sets)(p:∀e∈c.l,0<=e.used/\e.used<1000000000)(ak:Int):
  cl 152 [.ref q 0 0,I ak] H=ZC (.tup [I ((c.qI ak).getD 0),B (c.qI ak).isSome],H):=by
 refine bD W W (apk _ _ _ _) ?_ (wS λx n=>by
  simp only[List.mem_cons,List.not_mem_nil,zan]at n;rcases n with rfl|rfl <;> exact fC)
 have j:=XA G.guard h o m ak;have k:=(Ig dK H.guard (c.vw ak)).lnS;have d:(c.vw ak).length<=c.l.length:=List.length_filter_le _ _;cases i:c.vw ak with
 |nil=>
  rw[i]at j k;have hv:c.qI ak=none:=by simp[Cache.qI,i,zG]
  simp only[xq_,abC,j,k,hv,List.length_nil,Int.ofNat_zero,Option.getD_none,Option.isSome_none]
 |cons a l=>
  rw[i]at j k d;have hv:c.qI ak=ZC (ajs a l).ak:=by simp[Cache.qI,i,zG]
  have⟨H',u⟩:=YU H.guard (Nat.le_refl _) (a:=a) (l:=l) (by simp only[List.length_cons]at d;omega) (λe v=>p e (alf c ak e (by rw[i];exact v)));have w:¬((a::l).length:Int)=0:=by simp only[List.length_cons];omega
  have y:(ajs a l).av[2]?=ZC (I (ajs a l).ak):=rfl;simp only[xq_,abC,j,k,w,u,hv,y,Option.getD_some,Option.isSome_some]
end
def LD {α:Type}{enc:α->Q AV}{m:Nat}(b:∀a,(enc a).length=m){a':α}{o:Nat}{vs:Q AV}(e:o+vs.length<=m):∀(l:Q α) (i:Nat) (a:α),l[i]?=ZC a->aI (enc a) o vs=enc a'->aI (l.flatMap enc) (i*m+o) vs=(l.set i a').flatMap enc
 |[],i,a,h,_=>by simp at h
 |x::l,0,a,h,hv=>by
  simp only[List.getElem?_cons_zero,Option.some.injEq]at h;subst h;have d:=b x;rw[List.set_cons_zero,List.flatMap_cons,List.flatMap_cons,<-hv];unfold aI;rw[Nat.zero_mul,Nat.zero_add,List.take_append_of_le_length V,List.drop_append_of_le_length V];simp only[List.append_assoc]
 |x::l,i+1,a,h,hv=>by
  have d:=b x;have g:=LD b e l i a (by simpa using h) hv;rw[List.set_cons_succ,List.flatMap_cons,List.flatMap_cons,<-g];unfold aI;have j:(i+1)*m+o=(enc x).length+(i*m+o):=by rw[d,Nat.add_mul,Nat.one_mul];omega
  have k:(i+1)*m+o+vs.length=(enc x).length+(i*m+o+vs.length):=by rw[d,Nat.add_mul,Nat.one_mul];omega
  rw[k,j,List.take_length_add_append,List.drop_length_add_append,List.append_assoc]
section
variable {b:Nat}{H:ah}{g:bG}{q:Nat}
def Ru(G:Good b H g)(hb:H.base<=b){c:Cache}(h:g q=ZC (dD c)){x:AV}(k:Cur b H q 0 x 6 (c.l.flatMap Ent.av)){i:Nat}{e e':Ent}(hi:c.l[i]?=ZC e):
  ∃r gg off,eH x i=.ref r gg off/\∀(w o:Nat) (v:AV),v.cells.length=w->v.cells.all AV.aU=Z0->o+w<=6->aI e.av o v.cells=e'.av->
   ∃H',st w (.ref r gg (off+o)) v H=ZC (aX,H')/\Good b H' (upd g q (dD { c with l:=c.l.set i e' }))/\Step b H H'/\H'.next=H.next:=by
 have⟨r,gg,off,m,n⟩:=G.elem hb h (i:=0) W J (dF dK c.l) k (j:=i) (List.getElem?_eq_some_iff.1 hi).1;refine⟨r,gg,off,m,λw o v p u y z=>?_⟩;have⟨H',A,d,C⟩:=n w o v p u y;refine⟨H',A,?_,C⟩;have:=LD dK (o:=o) (vs:=v.cells) V c.l i e hi z;rw[this]at d;exact d
def YV(G:Good b H g)(hb:H.base<=b){c:Cache}(h:g q=ZC (dD c))(A:c.l.length<1000000)(hk:0<=c.dN/\c.dN<1000000000)(ak:Int):
  ∃H',cl 150 [.ref q 0 0,I ak] H=ZC (B (c.at_ ak).isSome,H')/\Good b H' (upd g q (dD (c.touch ak)))/\Step b H H':=by
 refine kN Z3 Z3 (apg _ _ _ _) ?_;have d:=Jd G h A ak;cases ha:c.at_ ak with
 |none=>
  rw[ha]at d;have j:yM (Z1:Z6 Nat)=-1:=rfl;rw[j]at d;refine⟨H,?_,by rw[show c.touch ak=c by simp[Cache.touch,ha],fP h];exact G,Step.refl _ _⟩;simp only[Int.reduceLT,Int.reduceNeg,xq_,abA,d,Option.isSome_none]
 |some i=>
  rw[ha]at d;have j:yM (ZC i)=(i:Int):=rfl;rw[j]at d;have C:¬(i:Int)<0:=V
  have hi:i<c.l.length:=List.findIdx?_eq_some_iff_findIdx_eq.1 ha |>.1
  have⟨e,u⟩:∃e,c.l[i]?=ZC e:=⟨_,List.getElem?_eq_getElem hi⟩
  have D:=G.load h (i:=3) (x:=I c.dN) Z3;have w1:=wrap_i64 (a:=c.dN+1) V V;have⟨H1,E,m,w,X⟩:=G.store hb h (i:=3) (v:=I (c.dN+1)) (by simp[dD]) dU;have o:upd g q ((dD c).set 3 (.av (I (c.dN+1)))) q=ZC (dD { c with dN:=c.dN+1 }):=aQ;have F:=m.load o (i:=3) (x:=I (c.dN+1)) Z3;have⟨x,K,y⟩:=m.seq o (i:=0) Z3;have L:=y.is (n:=c.l.length) J (dF dK c.l);have p:=L.ix (k:=.i64) (i:=(i:Int)) V V;rw[Int.toNat_natCast]at p;have⟨r,gg,off,M,Q⟩:=Ru m (by rw[w.base];exact hb) o y (e':={ e with used:=c.dN+1 }) u;have⟨R,T,z,W,t4⟩:=Q 1 3 (I (c.dN+1)) Z3 Z3 J Z3;rw[M]at p;refine⟨R,?_,?_,w.trans W⟩
  ·simp only[xq_,abA,d,C,D,bM,w1,E,K,F,p,T,Option.isSome_some]
  ·rw[pz]at z;have:c.touch ak={ c with l:=c.l.set i { e with used:=c.dN+1 },dN:=c.dN+1 }:=by
    simp only[Cache.touch,ha];rw[List.getD_eq_getElem?_getD,u];rfl
   rw[this];exact z
def alg {i n:Nat}{x:AV}{l:Q AV}(c:Cur b H q i x 6 l)(hb:H.base<=b)(g:l.length=n*6)(k:n<1000000000){j:Nat}(m:j<n):
  ∃h H',cl 242 [x,I j,I (j+1)] H=ZC (h,H')/\Fit H H' x h 6 (l.take (j*6)++l.drop ((j+1)*6))/\H'.next=H.next/\H'.base=H.base/\∀r,iH x≠ZC r->H'.get r=H.get r:=by
 have⟨y,K,L,o,H1,M,p,u,v,w,A,C,D,E,f,n1,F,k1⟩:=Wv c hb J g k m (z:=[zI,zI,zI,zI,zB,zN]) W W (e:=100) (by_:=64) J;have G:=(c.is J g).lnS;have d:((j:Int)=j+1)=False:=zaG V;refine⟨o,p,bg W W (aqz _ _ _ _ _ ?_),f,n1,F,k1⟩;simp only[xq_,ajj,G,u,v,w,A,C,D,E,d]
def acL(G:Good b H g)(hb:H.base<=b){c:Cache}(h:g q=ZC (dD c))(C:c.l.length<1000000){j:Nat}(p:j<c.l.length):
  ∃x e H1 d,ld (.ref q 0 0) H=ZC (x,H)/\cl 242 [x,I j,I (j+1)] H=ZC (e,H1)/\st 1 (.ref q 0 0) e H1=ZC (aX,d)/\Good b d (upd g q (dD { c with l:=c.l.eraseIdx j }))/\Step b H d:=by
 have⟨x,u,k⟩:=G.seq h (i:=0) W;have⟨e,H1,v,n,D,w,o⟩:=alg k hb (dF dK c.l) V p;rw[Lj dK]at n;have⟨d,y,z,A,E⟩:=G.seat h (i:=0) W k V V (λr _ m=>o r m) n;exact⟨x,e,H1,d,u,v,y,z,Step.trans ⟨w,V,λr m=>o r (k.low m)⟩ A⟩
def Je(G:Good b H g)(hb:H.base<=b){c:Cache}(h:g q=ZC (dD c))(hl:c.l.length<1000000)(hd:∀e∈c.l,e.data.length<1000000000)(ak:Int):
  ∃H',cl 232 [.ref q 0 0,I ak] H=ZC (jG (c.find ak),H')/\Good b H' (upd g q (dD (c.drop ak)))/\Step b H H':=by
 have hq:=G.lt h;have G1:=G.newObj (ty:=100) (xs:=[zI,zI,zI,zI,zB,zN]) W;have h1:upd g H.next ([zI,zI,zI,zI,zB,zN].map .av) q=ZC (dD c):=by rw[bF (by omega)];exact h
 have e1:=nI G1 h1 hl hd ak;have hb0:H.base<=H.next:=Nat.le_trans hb G.1
 refine kN W W (aqr _ _ _ _) ?_;have hf:c.find ak=(c.at_ ak).bind λi=>c.l[i]?:=(sD c.l).symm;cases ha:c.at_ ak with
 |none=>
  rw[ha]at hf;have hf:c.find ak=none:=hf;rw[hf]at e1;simp only[jG,Option.getD_none,Option.isSome_none,su]at e1;have hdr:c.drop ak=c:=by simp[Cache.drop,ha]
  simp only[Nat.reduceAdd,aI,xq_,hq_,Option.some.injEq,zaa,zaJ,abT,e1,F5,jG,hf,Option.getD_none,Option.isSome_none,su,hb0];rw[hdr,fP h];exact⟨(G.new _).new _,(Step.new _ G.1).trans (Step.new _ (G.new _).1)⟩
 |some i=>
  have hi:i<c.l.length:=List.findIdx?_eq_some_iff_findIdx_eq.1 ha |>.1
  have⟨e,he⟩:∃e,c.l[i]?=ZC e:=⟨_,List.getElem?_eq_getElem hi⟩
  rw[ha]at hf;have hf:c.find ak=ZC e:=by rw[hf];exact he
  rw[hf]at e1;simp only[jG,Option.getD_some,Option.isSome_some]at e1;have G2:=G1.newObj (ty:=100) (xs:=e.av) (jR _);have h2:upd (upd g H.next ([zI,zI,zI,zI,zB,zN].map .av)) (H.next+1) (e.av.map .av) q=ZC (dD c):=by rw[bF (by omega)];exact h1
  have e2:=Jd G2 h2 hl ak;have hn:yM (ZC i)=(i:Int):=rfl;rw[ha,hn]at e2;have⟨x,x',K1,K2,s1,s2,s3,s4,s5⟩:=acL G2 (by rw[iO,iO];omega) h2 hl hi;have G3:Good b K2 _:=s4;let gz:=upd (upd (upd g H.next ([zI,zI,zI,zI,zB,zN].map .av)) (H.next+1) (e.av.map .av)) q (dD { c with l:=c.l.eraseIdx i });have q2:gz (H.next+1)=ZC (e.av.map .av):=by simp only[gz];rw[bF (by omega),aQ]
  have q1:gz H.next=ZC ([zI,zI,zI,zI,zB,zN].map .av):=by simp only[gz];rw[bF (by omega),bF (by omega),aQ]
  have l2:=G3.loads q2 (i:=0) (n:=6) (xs:=e.av) W W (by decide);have⟨K3,t1,t2,t3,t4⟩:=G3.stores (by rw[s5.base,iO,iO];exact hb) q1 (i:=0) (n:=6) (vs:=e.av) (by decide) W (jR _);have l3:=t2.loads aQ (i:=0) (n:=6) (xs:=e.av) W W (by decide);have w1:=wrap_i64 (a:=(i:Int)+1) (by omega) (by omega);have hdr:c.drop ak={ c with l:=c.l.eraseIdx i }:=by simp[Cache.drop,ha]
  simp only[Nat.reduceAdd,aI,xq_,hq_,Option.some.injEq,zaa,zaJ,abT,e1,F5,jG,hf,Option.getD_some,Option.isSome_some,hb0,e2,bM,w1,s1,s2,s3,l2,t1,l3,hdr];have n1:g H.next=none:=G.isNone (Nat.le_refl _)
  have n2:g (H.next+1)=none:=G.isNone (by omega);exact⟨t2.sub (((((uF.refl g).more n1 _).more n2 _).both q _).more (Ap n1 (by omega)) _),(((Step.new _ G.1).trans (Step.new _ (G.new _).1)).trans s5).trans t3⟩
end
section
variable {b:Nat}{H:ah}{g:bG}{q:Nat}
def XB(G:Good b H g)(hb:H.base<=b){c:Cache}(h:g q=ZC (dD c))(hl:c.l.length<1000000)(hs0:1<=c.sets)(hk:0<=c.dN/\c.dN<1000000000)(e:Ent){x:AV}(hel:e.data.length<1000000000)(hx:nH H x e.data):
  ∃H',cl 191 [.ref q 0 0,.agg (e.avx x)] H=ZC (I (c.put e).2,H')/\Good b H' (upd g q (dD (c.put e).1))/\Step b H H':=by
 have hq:=G.lt h;have hb0:H.base<=H.next:=Nat.le_trans hb G.1
 have ax:=afD (p:=e) hx.one;have e0:=Xz (H.new (.blk 0 100 (e.avx x))) e hel (hx.new _);have ll:(e.avx x).length=6:=rfl;have lt:(e.avx x).take 6=e.avx x:=rfl;have l6:(e.avx x).drop 6=[]:=rfl;let H1:=H.new (.blk 0 100 e.av);have G1:Good b H1 g:=G.new _;have lf:e.av[2]?=ZC (I e.ak):=rfl;refine kN W W (apK _ _ _ _) ?_;by_cases hneg:e.ak<0
 ·have hp:c.put e=(c,1):=by simp only[Cache.put];rw[YY hneg]
  rw[hp];refine⟨H1,?_,by rw[fP h];exact G1,Step.new _ G.1⟩;simp only[Nat.reduceLT,aI,xq_,hq_,QW,aC ax,ll,lt,l6,e0,hb0,lf,hneg];rfl
 ·have e1:=Jd G1 h hl e.ak;cases ha:c.at_ e.ak with
  |some i=>
   rw[ha]at e1;have hn:yM (ZC i)=(i:Int):=rfl;rw[hn]at e1;have h0:(0:Int)<=i:=by omega
   have hi:i<c.l.length:=List.findIdx?_eq_some_iff_findIdx_eq.1 ha |>.1
   have⟨o,ho⟩:∃o,c.l[i]?=ZC o:=⟨_,List.getElem?_eq_getElem hi⟩
   have⟨y,hy0,cy⟩:=G.seq h (i:=0) W;have c1:=cy.new (.blk 0 100 e.av);have y1:=c1.load;have hs:=c1.is (n:=c.l.length) (by decide) (dF dK c.l);have e3:=hs.ix (k:=.i64) (i:=(i:Int)) (by omega) (by omega);rw[Int.toNat_natCast]at e3;have e4:=hs.ahm (i:=i) (o:=3) hi (by decide);rw[acp dK c.l i o ho (by decide)]at e4;let e':Ent:={ e with used:=o.used }
   let H2:=H.new (.blk 0 100 e'.av);have G2:Good b H2 g:=G.new _;have c2:=cy.new (.blk 0 100 e'.av);have y2:=c2.load;have hs2:=c2.is (n:=c.l.length) (by decide) (dF dK c.l);have e5:=hs2.ix (k:=.i64) (i:=(i:Int)) (by omega) (by omega);rw[Int.toNat_natCast]at e5;have⟨r,gg,off,p1,p2⟩:=Ru G2 hb h c2 (e':=e') ho;have⟨H3,t1,t2,t3,t4⟩:=p2 6 0 (.agg e'.av) W (jR e') (by decide) (by simp only[eU];rfl);rw[p1]at e3 e4 e5;rw[rJ]at e4;have ou:o.av[3]?=ZC (I o.used):=rfl;simp only[Option.bind_some,ou,Option.map_some]at e4;rw[Nat.add_zero]at t1;have hp:c.put e=({ c with l:=c.l.set i e' },0):=by
    simp only[Cache.put];rw[F hneg,ha];simp only[e',List.getD_eq_getElem?_getD,ho,Option.getD_some]
   rw[hp];refine⟨H3,?_,t2,(Step.new _ G.1).trans t3⟩;simp only[H1,Ent.av]at e1 y1 e3 e4;simp only[H2,e',Ent.av]at y2 e5 t1;simp only[Nat.reduceLT,Nat.reduceAdd,aI,xq_,hq_,QW,aC ax,ll,lt,l6,e0,hb0,hneg,e1,h0,y1,e3,e4,Ent.av,y2,e5,t1]
  |none=>
   rw[ha]at e1;have hn:yM (Z1:M Nat)=-1:=rfl;rw[hn]at e1;have e2:=Rt G1 h hl hs0 e.ak;simp only[H1]at e1 e2;cases hf:c.full e.ak with
   |true=>
    have hp:c.put e=(c,5):=by simp only[Cache.put];rw[F hneg,ha];simp only[hf,zad]
    rw[hp];rw[hf]at e2;refine⟨H1,?_,by rw[fP h];exact G1,Step.new _ G.1⟩;simp only[Nat.reduceLT,Int.reduceLE,Int.reduceNeg,aI,xq_,hq_,QW,aC ax,ll,lt,l6,e0,hb0,lf,hneg,e1,e2];rfl
   |false=>
    rw[hf]at e2;let e':Ent:={ e with used:=c.dN+1 }
    have hp:c.put e=({ c with l:=c.l++[e'],dN:=c.dN+1 },0):=by simp only[Cache.put];rw[F hneg,ha];simp only[hf,Bool.false_eq_true,zaf];rfl
    rw[hp];have F1:=G.newObj (ty:=100) (xs:=e.av) (jR e);have f1:upd g H.next (e.av.map .av) q=ZC (dD c):=by rw[bF (by omega)];exact h
    have l1:=F1.load f1 (i:=3) (x:=I c.dN) W;have w1:=wrap_i64 (a:=c.dN+1) (by omega) (by omega);have⟨H2,s1,F2,s3,s4⟩:=F1.store hb f1 (i:=3) (v:=I (c.dN+1)) (by simp[dD]) dU;have f2:upd (upd g H.next (e.av.map .av)) q ((dD c).set 3 (.av (I (c.dN+1)))) q=ZC (dD { c with dN:=c.dN+1 }):=aQ;have l2:=F2.load f2 (i:=3) (x:=I (c.dN+1)) W;have f3:upd (upd g H.next (e.av.map .av)) q ((dD c).set 3 (.av (I (c.dN+1)))) H.next=ZC (e.av.map .av):=by rw[bF (by omega),aQ]
    have⟨H3,t1,F3,t3,t4⟩:=F2.store (by rw[s3.base];exact hb) f3 (i:=3) (v:=I (c.dN+1)) (by simp[Ent.av]) dU;have f4:upd (upd (upd g H.next (e.av.map .av)) q ((dD c).set 3 (.av (I (c.dN+1))))) H.next ((e.av.map .av).set 3 (.av (I (c.dN+1)))) q=ZC (dD { c with dN:=c.dN+1 }):=by rw[bF (by omega)];exact f2
    have l4:=F3.loads aQ (i:=0) (n:=6) (xs:=e'.av) W W (by decide);have⟨y,hy,cy⟩:=F3.seq f4 (i:=0) W;have⟨x',K1,K2,a1,a2,a3,a4⟩:=(F3.new (.blk 0 100 e'.av)).append (e:=100) (by_:=64) (n:=c.l.length) (by rw[iO,t3.base,s3.base];exact hb) f4 (i:=0) W (by decide) (dF dK c.l) (cy.new _) (jZ (ex:=Z0) (n:=1) (m:=6) (l:=e'.av) W) (jR e') (by unfold most;omega) (by unfold most;omega);refine⟨K2,?_,?_,(((Step.new _ G.1).trans s3).trans t3).trans ((Step.new _ F3.1).trans a4)⟩
    ·simp only[Nat.reduceLT,Int.reduceLE,Int.reduceNeg,Nat.reduceLeDiff,aI,xq_,hq_,QW,aC ax,ll,lt,l6,e0,hb0,lf,hneg,e1,e2,l1,bM,w1,s1,l2,t1,hy,l4,aay,Nat.one_mul,jE (m:=6) (z:=[zI,zI,zI,zI,zB,zN]) (v:=.agg e'.av) W W (jR e'),a1,a2]
    ·refine a3.sub λq' cs hq'=>?_;have n1:g H.next=none:=G.isNone (Nat.le_refl _)
     unfold upd at hq' ⊢;by_cases e3:q'=q
     ·rw[YY e3]at hq' ⊢;cases hq';simp[dD]
     ·rw[F e3]at hq' ⊢;have:q'≠H.next:=λe4=>by rw[e4,n1]at hq';cases hq'
      rw[F this,F e3,F this];exact hq'
end
def Rw:∀(es:Q (Int × AV)) (n:Int) (v:AV),MJ es n v=lK es n v
 |[],_,_=>rfl
 |(k,w)::es,n,v=>by
  simp only[MJ,lK];split
  ·rfl
  ·rw[Rw es n v]
def OT {α:Type}:∀{es:Q (Int × α)} {n:Int} {v:α} {j:Nat} {n':Int} {w:α},(es.map (·.1)).Nodup->(lK es n v)[j]?=ZC (n',w)->(n'=n/\w=v)∨(n'≠n/\es[j]?=ZC (n',w))
 |[],n,v,j,n',w,_,h=>by
  simp only[lK]at h;cases j with
  |zero=>simp only[List.getElem?_cons_zero,Option.some.injEq,zaa]at h;exact .inl ⟨h.1.symm,h.2.symm⟩
  |succ j=>simp at h
 |(m,o)::es,n,v,j,n',w,b,h=>by
  simp only[List.map_cons,List.nodup_cons]at b;simp only[lK]at h;split at h
  ·rename_i e;cases j with
   |zero=>simp only[List.getElem?_cons_zero,Option.some.injEq,zaa]at h;exact .inl ⟨h.1.symm,h.2.symm⟩
   |succ j=>
    simp only[List.getElem?_cons_succ]at h;refine .inr ⟨λd=>b.1 ?_,by simpa using h⟩;rw[e,<-d];exact List.mem_map.2 ⟨_,List.mem_of_getElem? h,W⟩
  ·rename_i e;cases j with
   |zero=>
    simp only[List.getElem?_cons_zero,Option.some.injEq,zaa]at h;refine .inr ⟨λd=>e (by rw[h.1,d]),by simp[h.1,h.2]⟩
   |succ j=>
    simp only[List.getElem?_cons_succ]at h;rcases OT b.2 h with g|⟨i,k⟩
    ·exact .inl g
    ·exact .inr ⟨i,by simpa using k⟩
def LG {α β:Type}:∀{es:Q (Int × α)} {b:Q (Int × β)} {n:Int} {v:α} {w:β},b.map (·.1)=es.map (·.1)->(lK b n w).map (·.1)=(lK es n v).map (·.1)
 |[],[],_,_,_,_=>rfl
 |[],_::_,_,_,_,h=>by simp at h
 |_::_,[],_,_,_,h=>by simp at h
 |(k,d)::es,(k',w0)::b,n,v,w,h=>by
  simp only[List.map_cons,List.cons.injEq]at h;obtain⟨rfl,h⟩:=h;simp only[lK];split
  ·simp[h]
  ·simp only[List.map_cons,List.cons.injEq,zaD];exact LG h
section
variable {b:Nat}{H:ah}{g:bG}{q:Nat}{cs:List Cell}
def Good.OU(G:Good b H g)(h:g q=ZC cs){i m:Nat}{k:IntKind}{es:Q (Int × Q AV)}(hi:cs[i]?=ZC (.maps k m es))(hnd:(es.map (·.1)).Nodup)(n:Int):
  ∃r x,ld (.ref q 0 i) H=ZC (.mp r,H)/\lk k (.slice Z1 0 0) (.mp r) (.s (.int k n)) ZV H=ZC (x,H)/\Own b H x m ((jw es n).getD [])/\iH x≠ZC q/\q<H.next/\(∀r',iH x=ZC r'->b<=r')/\
   ∀H1 x' l',H.next<=H1.next->H1.base<=b->(∀r',r'<H.next->iH x≠ZC r'->H1.get r'=H.get r')->Fit H H1 x x' m l'->
    ∃H',mup k (.mp r) (.s (.int k n)) x' H1=ZC (aX,H')/\Good b H' (upd g q (cs.set i (.maps k m (lK es n l'))))/\Step b H1 H'/\H'.next=H1.next:=by
 have⟨h0,τ,hR⟩:=G;have R:=hR q cs h;have⟨ty,xs,h1,h2,h3,h4⟩:=R.blk;have hqn:=R.hi;have hlt:i<xs.length:=by rw[h2];exact(List.getElem?_eq_some_iff.1 hi).1
 have hx:xs[i]?=ZC (xs[i]'hlt):=List.getElem?_eq_getElem hlt;have:=h4 i _ _ hi hx;simp only[CR]at this;have⟨aes,⟨r,e,t1,t2,t3,t4⟩,a2,a3⟩:=this;rw[e]at hx;have hrq:q≠r:=by intro e;subst e;rw[R.tag]at t1;cases t1
 have⟨x,x1,x2⟩:∃x,OS b H τ (q,i+1,1,n) x m ((jw es n).getD [])/\lk k (.slice Z1 0 0) (.mp r) (.s (.int k n)) ZV H=ZC (x,H):=by
  cases hn:jw es n with
  |none=>
   have hf:qA aes n=none:=by rw[um];exact(Ro a2).1 hn
   refine⟨zN,.inl ⟨W,W⟩,?_⟩;simp only[lk,kV,bT,Option.map_some,lkO,t4,and_self,zad,hf];rfl
  |some l=>
   have⟨j,w,b1,b2,b3⟩:=Jb a2 hn;refine⟨w,a3 j n l w b2 b3,?_⟩;simp only[lk,kV,bT,Option.map_some,lkO,t4,and_self,zad,um,b1];rfl
 have htag:∀r',iH x=ZC r'->τ r'=ZC (q,i+1,1,n)/\b<=r':=by
  intro r' hr;rcases x1 with⟨rfl,_⟩|⟨r0,gg,off,n',cap,ex,ty',all,rfl,k1,k2,_⟩
  ·cases hr
  ·simp only[iH,Option.some.injEq]at hr;subst hr;exact⟨k1,k2⟩
 have hxq:iH x≠ZC q:=λe=>by have:=(htag q e).1;rw[R.tag]at this;cases this
 have hxr:iH x≠ZC r:=λe=>by have:=(htag r e).1;rw[t1]at this;simp at this
 refine⟨r,x,by rw[dG h1,hx];rfl,x2,x1.own,hxq,hqn,λr' hr=>(htag r' hr).2,λH1 x' l' hn hb hk hf=>?_⟩;have hg1:H1.get r=.map k aes:=by rw[hk r t3 hxr,t4]
 refine⟨H1.put r (.map k (MJ aes n x')),?_,?_,Step.put _ t2,W⟩
 ·simp only[mup,hg1];rw[YY ⟨zac,zac,by omega⟩]
 ·refine xW (τ':=λr'=>if H.next<=r' then ZC (q,i+1,1,n)else τ r') h0 hR (show H.next<=H1.next from hn) (λr' hr ht=>⟨by rw[F (by omega)],?_⟩)
   ⟨by rw[F (by omega)];exact R.tag,R.lo,show q<H1.next by omega,vY (xs:=xs) (by rw[dJ,F hrq,hk q hqn hxq];exact h1) (R.tyl _ _ _ h1),ty,xs,by rw[dJ,F hrq,hk q hqn hxq];exact h1,by simp[h2],h3,λj cc y hc hy=>?_⟩
  ·rw[dJ,F (by intro e;subst e;exact ht _ _ _ t1)];exact hk r' hr λe=>ht _ _ _ (htag r' e).1
  ·rcases ny hc with⟨rfl,rfl⟩|⟨hj,hc⟩
   ·rw[hx]at hy;cases hy;refine⟨lK aes n x',⟨r,W,by simp only;rw[F (by omega)];exact t1,t2,show r<H1.next by omega,by rw[dJ,YY W,Rw]⟩,LG a2,λj' n' cells y' h5 h6=>?_⟩;rcases OT hnd h5 with⟨rfl,rfl⟩|⟨hne,h5⟩
    ·rcases OT (by rw[a2];exact hnd) h6 with⟨_,rfl⟩|⟨hne,_⟩
     ·rcases hf with hf|⟨r0,gg,off,n'',cap,ex,ty',all,rfl,k1,k2,k3,k4,k5⟩
      ·exact .inl hf
      ·have hr0:r0≠r:=by
        rcases k1 with k1|k1
        ·intro e;subst e;exact hxr k1
        ·omega
       refine .inr ⟨r0,gg,off,n'',cap,ex,ty',all,W,?_,?_,k2,k3,by rw[dJ,F hr0];exact k4,k5⟩
       ·show(if H.next<=r0 then ZC (q,j+1,1,n')else τ r0)=ZC (q,j+1,1,n');split
        ·rfl
        ·rcases k1 with k1|k1
         ·exact(htag r0 k1).1
         ·omega
       ·rcases k1 with k1|k1
        ·exact(htag r0 k1).2
        ·omega
     ·exact absurd W hne
    ·rcases OT (by rw[a2];exact hnd) h6 with⟨h7,_⟩|⟨_,h6⟩
     ·exact absurd h7 hne
     ·refine(a3 j' n' cells y' h5 h6).keep (show H.next<=H1.next from hn) λr' hr ht=>⟨by rw[F (by omega)];exact ht,?_⟩
      rw[dJ,F (by intro e;subst e;rw[t1]at ht;simp at ht)];refine hk r' hr λe=>?_;have:=(htag r' e).1;rw[this]at ht;simp only[Option.some.injEq,zaa,zaD]at ht;exact hne ht.symm
   ·refine(h4 j cc y hc hy).keep (show H.next<=H1.next from hn) λr' s t hr ht=>⟨by rw[F (by omega)];exact ht,?_⟩
    rw[dJ,F (by intro e;subst e;rw[t1]at ht;simp only[Option.some.injEq,zaa,Nat.add_right_cancel_iff]at ht;exact hj ht.2.1.symm)];refine hk r' hr λe=>?_;have:=(htag r' e).1;rw[this]at ht;simp only[Option.some.injEq,zaa,Nat.add_right_cancel_iff]at ht;exact hj ht.2.1.symm
def Good.alh(G:Good b H g)(h:g q=ZC cs){i m:Nat}{k:IntKind}{es:Q (Int × Q AV)}(hi:cs[i]?=ZC (.maps k m es)):
  ∃r aes,ld (.ref q 0 i) H=ZC (.mp r,H)/\r<H.next/\H.get r=.map k aes/\aes.map (·.1)=es.map (·.1):=by
 have⟨h0,τ,hR⟩:=G;have R:=hR q cs h;have⟨ty,xs,h1,h2,h3,h4⟩:=R.blk;have hlt:i<xs.length:=by rw[h2];exact(List.getElem?_eq_some_iff.1 hi).1
 have hx:xs[i]?=ZC (xs[i]'hlt):=List.getElem?_eq_getElem hlt;have:=h4 i _ _ hi hx;simp only[CR]at this;have⟨aes,⟨r,e,t1,t2,t3,t4⟩,a2,a3⟩:=this;rw[e]at hx;exact⟨r,aes,by rw[dG h1,hx];rfl,t3,t4,a2⟩
end
abbrev Dv(t:Turns):List (Int × List AV):=t.wait.map λe=>(e.1,e.2.flatMap JJ)
def Dw(t:Turns):(Dv t).map (·.1)=t.wait.map (·.1):=by simp[Dv]
def Jf(t:Turns)(ak:Int):(jw (Dv t) ak).getD []=(t.ws ak).flatMap JJ:=by
 rw[Dv,OQ (λl:Q (Int × Int)=>l.flatMap JJ)];unfold Turns.ws;cases jw t.wait ak <;> rfl
def Rx(w:Q (Int × Q (Int × Int)))(ak:Int)(l:Q (Int × Int)):lK (w.map λe=>(e.1,e.2.flatMap JJ)) ak (l.flatMap JJ)=(lK w ak l).map λe=>(e.1,e.2.flatMap JJ):=by
 induction w with
 |nil=>rfl
 |cons e w b=>
  have⟨k,v⟩:=e;simp only[List.map_cons,lK];split
  ·rfl
  ·rw[b];rfl
section
variable {b:Nat}{H:ah}{g:bG}{q:Nat}
def afG(G:Good b H g)(hb:H.base<=b){t:Turns}(h:g q=ZC (iU t))(hw:(t.wait.map (·.1)).Nodup)(ak who id:Int)(hl:(t.ws ak).length<1000000):
  ∃H',cl 227 [.ref q 0 0,I ak,I who,I id] H=ZC (B (t.ask ak who id).2,H')/\Good b H' (upd g q (iU (t.ask ak who id).1))/\Step b H H':=by
 refine kN Z3 Z3 (aqk _ _ _ _ _ _) ?_;have A:=yu G h ak;have Q:=xF G h ak;by_cases d:who<0
 ·have C:t.ask ak who id=(t,ZV):=by simp only[Turns.ask];rw[YY d]
  rw[C];refine⟨H,?_,by rw[fP h];exact G,Step.refl _ _⟩;simp only[xq_,Q5,d]
 ·by_cases hc:(t.owned ak || !(t.ws ak).isEmpty)=Z0
  ·have C:t.ask ak who id=({ t with wait:=lK t.wait ak (t.ws ak++[(who,id)]) },ZV):=by simp only[Turns.ask];rw[Ys d,YY hc]
   rw[C];have⟨r,x,F,K,f3,f4,f5,f6,f7⟩:=G.OU h (i:=1) Z3 (by rw[show t.wait.map (λe=>(e.1,e.2.flatMap λw=>[I w.1,I w.2]))=Dv t from Z3,Dw];exact hw) ak;rw[show t.wait.map (λe=>(e.1,e.2.flatMap λw=>[I w.1,I w.2]))=Dv t from Z3,Jf]at f3;let o:gG:=.blk 0 322 [I who,I id];have⟨x',H1,R,T,a3,a4,a5⟩:=(f3.new o).app (e:=322) (by_:=16) (n:=(t.ws ak).length) (by rw[iO];exact hb) J (dF (enc:=JJ) (λ_=>rfl) _) (jZ (ex:=Z0) (n:=1) (m:=2) (l:=[I who,I id]) Z3) Z3 (by unfold most;omega) (by unfold most;omega);have W:Fit H H1 x x' 2 ((t.ws ak++[(who,id)]).flatMap JJ):=by
    rw[List.flatMap_append];rcases T with T|⟨r0,gg,off,n',X,ex,ty,all,k0,k1,k2⟩
    ·exact .inl T
    ·exact .inr ⟨r0,gg,off,n',X,ex,ty,all,k0,k1.imp (λh=>h) λh=>Nat.le_trans (Nat.le_succ _) h,k2⟩
   have j:∀r',r'<H.next->iH x≠ZC r'->H1.get r'=H.get r':=λr' p aa=>by rw[a5 r' (Nat.lt_of_lt_of_le p (Nat.le_succ _)) aa,aZ p]
   have⟨H',L,M,m3,m4⟩:=f7 H1 x' _ (Nat.le_trans (Nat.le_succ _) a3) (by rw[a4,iO];exact hb) j W;have ab:H1.get q=(H.new o).get q:=by rw[j q f5 f4,aZ f5]
   refine⟨H',?_,?_,Step.trans ⟨by rw[a4,iO],Nat.le_trans (Nat.le_succ _) a3,λr' p=>j r' (Nat.lt_of_lt_of_le p G.1) λe=>by have:=f6 r' e;omega⟩ m3⟩
   ·have u:∀{β:Type} (k:Z6 β),ck (bT (.ref q 0 1)) (H.new o) H1 k=k:=λk=>YR λr' p=>by
     simp only[bT,Option.some.injEq]at p;subst p;exact ab
    have ed:bd 322 [(0,I who),(1,I id)]=ZC (.agg [I who,I id]):=by
     simp only[xq_,anf,jf,fO,ahj];rfl
    have eb:=jE (e:=322) (m:=2) (z:=[zI,zI]) (v:=.agg [I who,I id]) (H:=H) Z3 Z3 Z3;simp only[eU]at eb;simp only[o]at R u;cases D:t.owned ak with
    |true=>
     rw[D]at A;simp only[xq_,Q5,d,A,F,K,ed,agY,Nat.one_mul,Nat.reduceLeDiff,eb,R,L,u]
    |false=>
     rw[D]at A hc;have y:(0:Int)<(t.ws ak).length:=by
      cases E:t.ws ak with
      |nil=>rw[E]at hc;simp at hc
      |cons a l=>simp only[List.length_cons];omega
     simp only[xq_,Q5,d,A,Q,y,F,K,ed,agY,Nat.one_mul,Nat.reduceLeDiff,eb,R,L,u]
   ·have:iU { t with wait:=lK t.wait ak (t.ws ak++[(who,id)]) }=(iU t).set 1 (.maps .i64 2 (lK (Dv t) ak ((t.ws ak++[(who,id)]).flatMap JJ))):=by
     rw[Rx];rfl
    rw[this];exact M
  ·have C:t.ask ak who id=({ t with iI:=lK t.iI ak who },Z0):=by simp only[Turns.ask];rw[Ys d,Ys hc]
   rw[C];have D:t.owned ak=false:=by cases h1:t.owned ak <;> simp_all
   have E:t.ws ak=[]:=by
    rw[D]at hc;cases E:t.ws ak with
    |nil=>rfl
    |cons a l=>rw[E]at hc;simp at hc
   rw[D]at A;rw[E]at Q;have⟨r,F,_,_,K⟩:=G.map h (i:=0) Z3;have⟨H',L,M,m3,m4⟩:=(K hb).1 ak (I who);refine⟨H',?_,?_,m3⟩
   ·have y:¬(0:Int)<(0:Nat):=J
    simp only[xq_,Q5,d,A,Q,List.length_nil,y,F,L]
   ·rw[CZ (λn=>I n)]at M;exact M
def Ry(G:Good b H g)(hb:H.base<=b){t:Turns}(h:g q=ZC (iU t))(ak who:Int):
  ∃H',cl 241 [.ref q 0 0,I ak,I who] H=ZC (I (t.release ak who).2,H')/\Good b H' (upd g q (iU (t.release ak who).1))/\Step b H H':=by
 refine kN W W (aqx _ _ _ _ _) ?_;have e:=yu G h ak;have⟨r,o,u,_,v⟩:=G.map h (i:=0) W;have k:=u (.int .i64 0) ak ZV;rw[vk]at k;cases d:jw t.iI ak with
 |none=>
  have j:t.release ak who=(t,6):=by simp only[Turns.release,d];rw[F O]
  have m:t.owned ak=false:=by simp[Turns.owned,d]
  rw[j];rw[m]at e;refine⟨H,?_,by rw[fP h];exact G,Step.refl _ _⟩;simp only[xq_,Xk,e,Bool.not_false]
 |some w=>
  have m:t.owned ak=true:=by simp[Turns.owned,d]
  rw[m]at e;simp only[d,Option.map_some,Bool.false_eq_true,zaf]at k;by_cases hw:w=who
  ·have j:t.release ak who=({ t with iI:=Aq t.iI ak },0):=by simp only[Turns.release,d];rw[YY (by rw[hw])]
   rw[j];have⟨H',y,p,z,A⟩:=(v hb).2 ak;refine⟨H',?_,?_,z⟩
   ·simp only[xq_,Xk,e,Bool.not_true,o,k,hw,y]
   ·rw[Wy (λn=>I n)]at p;exact p
  ·have j:t.release ak who=(t,6):=by simp only[Turns.release,d];rw[F (by simpa using hw)]
   rw[j];refine⟨H,?_,by rw[fP h];exact G,Step.refl _ _⟩;simp only[xq_,Xk,e,Bool.not_true,Bool.not_false,o,k,hw]
def aqK(o:M (Int × Int)):AV:=.tup [I (o.getD (0,0)).1,I (o.getD (0,0)).2,B o.isSome]
def acM(G:Good b H g)(hb:H.base<=b){t:Turns}(h:g q=some (iU t))(hw:(t.wait.map (·.1)).Nodup)(ak:Int)(hl:(t.ws ak).length<1000000):
  ∃H',cl 195 [.ref q 0 0,I ak] H=some (aqK (t.next ak).2,H')/\Good b H' (upd g q (iU (t.next ak).1))/\Step b H H':=by
 refine kN rfl rfl (apR _ _ _ _) ?_;have e1:=yu G h ak;have e2:=xF G h ak;cases ho:t.owned ak with
 |true=>
  have hp:t.next ak=(t,none):=by simp only[Turns.next,ho,if_true]
  rw[hp];rw[ho]at e1;refine⟨H,?_,by rw[fP h];exact G,Step.refl _ _⟩;simp only[xq_,Xf,e1,aqK,Option.getD_none,Option.isSome_none]
 |false=>
  rw[ho]at e1;cases hz:t.ws ak with
  |nil=>
   have hp:t.next ak=(t,none):=by simp only[Turns.next,ho,hz,Bool.false_eq_true,if_false]
   rw[hp];rw[hz]at e2;refine⟨H,?_,by rw[fP h];exact G,Step.refl _ _⟩;simp only[xq_,Xf,e1,e2,List.length_nil,Int.ofNat_zero,aqK,Option.getD_none,Option.isSome_none]
  |cons w l=>
   have hp:t.next ak=(⟨lK t.iI ak w.1,lK t.wait ak l⟩,some w):=by simp only[Turns.next,ho,hz,Bool.false_eq_true,if_false]
   rw[hp];rw[hz]at e2;obtain⟨r,x,f1,f2,f3,f4,f5,f6,f7⟩:=G.OU h (i:=1) rfl (by rw[show t.wait.map (λe=>(e.1,e.2.flatMap λw=>[I w.1,I w.2]))=Dv t from rfl,Dw];exact hw) ak;rw[show t.wait.map (λe=>(e.1,e.2.flatMap λw=>[I w.1,I w.2]))=Dv t from rfl,Jf,hz]at f3;have hs:=f3.is (n:=(w::l).length) (by decide) (dF (enc:=JJ) (λ_=>rfl) _);have s1:=hs.ix (k:=.i64) (i:=(0:Int)) (by omega) (by simp only[List.length_cons];omega);rw[show((0:Int).toNat)=0 from rfl]at s1;have s2:=jT (enc:=JJ) (λ_=>rfl) hs (i:=0) (a:=w) rfl;have G1:=G.newObj (ty:=322) (xs:=[I w.1,I w.2]) rfl;have hqn:q≠H.next:=G.ne h
   have h1:upd g H.next ([I w.1,I w.2].map .av) q=some (iU t):=by rw[bF hqn];exact h
   obtain⟨r',x',f1',f2',f3',f4',f5',f6',f7'⟩:=G1.OU h1 (i:=1) rfl (by rw[show t.wait.map (λe=>(e.1,e.2.flatMap λw=>[I w.1,I w.2]))=Dv t from rfl,Dw];exact hw) ak;rw[show t.wait.map (λe=>(e.1,e.2.flatMap λw=>[I w.1,I w.2]))=Dv t from rfl,Jf,hz]at f3';have hln:=f3'.is (n:=(w::l).length) (by decide) (dF (enc:=JJ) (λ_=>rfl) _);rcases f3' with⟨_,f3'⟩|⟨r0,gg,off,n',cap,ex,ty,all,rfl,k2,k3,k4,k5,k6,k7,k8⟩
   ·simp[JJ]at f3'
   have hn':n'=l.length+1:=by have:=hln.2.2.1;simp only[List.length_cons]at this;omega
   subst hn';have sl:=E9 (r:=r0) (gg:=gg) (off:=off) (m:=2) (len:=l.length+1) (cap:=cap) (ex:=ex) (k1:=.i64) (lo:=1) (by decide) (by omega) k4;have t1:(1:Int).toNat=1:=rfl;rw[t1,Nat.one_mul,Nat.add_sub_cancel]at sl;have hle:(l.length+1)*2<=cap*2:=Nat.mul_le_mul_right _ k4;have hfit:Fit (H.new (.blk 0 322 [I w.1,I w.2])) (H.new (.blk 0 322 [I w.1,I w.2])) (.sl r0 gg off 2 (l.length+1) cap ex) (.sl r0 gg (off+2) 2 l.length (cap-1) ex) 2 (l.flatMap JJ):=by
    refine .inr ⟨r0,gg,off+2,l.length,cap-1,ex,ty,all,rfl,.inl rfl,k3,by omega,k5,by rw[Nat.sub_mul];omega,k7,?_⟩;have:=congrArg (List.drop 2) k8;rw[List.flatMap_cons,List.drop_append_of_le_length (by simp[JJ]),show(JJ w).drop 2=[]from rfl,List.nil_append,List.drop_take,List.drop_drop]at this;rw[this]
    congr 1
    omega
   obtain⟨H2,m1,G2,m3,m4⟩:=f7' (H.new (.blk 0 322 [I w.1,I w.2])) _ _ (Nat.le_refl _) (by rw[iO];exact hb) (λ_ _ _=>rfl) hfit;have e3:(iU t).set 1 (.maps .i64 2 (lK (Dv t) ak (l.flatMap JJ)))=iU ⟨t.iI,lK t.wait ak l⟩:=by
    rw[Rx];rfl
   rw[show(List.map (λe=>(e.1,List.flatMap (λw=>[I w.1,I w.2]) e.2)) t.wait)=Dv t from rfl,e3]at G2;obtain⟨ro,o1,_,_,o2⟩:=G2.map aQ (i:=0) rfl;have hb2:H2.base<=b:=by rw[m3.base,iO];exact hb
   obtain⟨H3,p1,G3,p3,p4⟩:=(o2 hb2).1 ak (I w.1);have j2:∀cs,upd (upd g H.next ([I w.1,I w.2].map .av)) q cs H.next=some ([I w.1,I w.2].map .av):=λcs=>by rw[bF hqn.symm,aQ]
   have v1:=G2.load (j2 _) (i:=0) (x:=I w.1) rfl;rw[pz]at G3;have v2:=G3.load (j2 _) (i:=0) (x:=I w.1) rfl;have v3:=G3.load (j2 _) (i:=1) (x:=I w.2) rfl;refine⟨H3,?_,?_,((Step.new _ G.1).trans m3).trans p3⟩
   ·have hne:¬((l.length+1:Nat):Int)=0:=by omega
    have hbn:H.base<=H.next:=Nat.le_trans hb G.1
    simp only[JJ]at s2;simp only[Nat.reduceAdd,aI,xq_,hq_,Xf,e1,e2,hne,f1,f2,s1,s2,hbn,f1',f2',sl,m1,o1,v1,p1,v2,v3,aqK,Option.getD_some,Option.isSome_some]
   ·rw[CZ (λn=>I n)]at G3;refine G3.sub ?_;exact((uF.refl g).more (G.isNone (Nat.le_refl _)) _).both q _
end
abbrev blw(n lo hi:Int):Bool:=decide (lo<=n) && decide (n<hi)
def afH(H:ah)(n lo hi:Int):cl 211 [I n,I lo,I hi] H=ZC (B (blw n lo hi),H):=by
 refine bg W W (ai7 _ _ _ _ _ ?_);by_cases h:lo<=n
 ·simp only[xq_,QX,h,blw,Bool.true_and]
 ·simp only[xq_,QX,h,blw,Bool.false_and]
def aqL(a b c:Bool):a=ZV∨(a=Z0/\b=ZV)∨(a=Z0/\b=Z0/\c=ZV)∨(a=Z0/\b=Z0/\c=Z0):=by revert a b c;decide
def Pkt.ok_eq(p:Pkt):p.ok=(blw p.src 0 6 && blw p.dst 0 6 && blw p.id 0 4096 && (blw p.aW 1 10 && blw p.ak 0 8 && blw p.ptr (-1) 6) && blw p.state 0 3 && !decide ((4:Int)<p.data.length)):=by
 have:u (p.data.length<=4)=!decide ((4:Int)<p.data.length):=by
  by_cases h:p.data.length<=4
  ·have:¬(4:Int)<p.data.length:=V
   simp[h,this]
  ·have:(4:Int)<p.data.length:=V
   simp[h,this]
 unfold Pkt.ok;rw[this];simp only[blw,Bool.and_assoc]
def BA(H:ah)(p:Pkt):cl 174 [.agg p.av] H=ZC (I (if p.ok=Z0 then 0 else 1),H):=by
 refine bD W W (aiI _ _ _) ?_ fC;have b:=λH n lo hi=>afH H n lo hi;have d:=λH=>(gJ H p.data).lnS;rw[p.ok_eq];generalize e:blw p.src 0 6=b1;generalize g:blw p.dst 0 6=b2;generalize h:blw p.id 0 4096=b3;generalize i:blw p.aW 1 10=b4;generalize j:blw p.ak 0 8=b5;generalize k:blw p.ptr (-1) 6=b6;generalize m:blw p.state 0 3=b7;by_cases o:(4:Int)<p.data.length
 all_goals rcases aqL b1 b2 b3 with rfl|⟨rfl,rfl⟩|⟨rfl,rfl,rfl⟩|⟨rfl,rfl,rfl⟩
 all_goals rcases aqL b4 b5 b6 with rfl|⟨rfl,rfl⟩|⟨rfl,rfl,rfl⟩|⟨rfl,rfl,rfl⟩
 all_goals cases b7
 all_goals simp only[Nat.reduceLT,Int.reduceNeg,xq_,hq_,abE,aC,Pkt.av,b,d,e,g,h,i,j,k,m,o,Bool.not_true,Bool.not_false,Bool.false_and,Bool.and_false]
def LH(H:ah)(k:Int):cl 92 [I k] H=ZC (B (wB k),H):=by
 refine bD W W (atO _ _ _) ?_ fC;by_cases h:1<=k
 ·simp only[xq_,akN,h,wB,Bool.true_and]
 ·simp only[xq_,akN,h,wB,Bool.false_and]
def Rz(H:ah)(k:Int):cl 229 [I k] H=ZC (I (D8 k),H):=by
 refine bD W W (aqn _ _ _) ?_ fC;by_cases b:k=1
 ·simp only[Int.reduceEq,xq_,Em,b,D8]
 ·by_cases d:k=2
  ·simp only[Int.reduceEq,xq_,Em,pX,d,D8,true_or]
  ·by_cases e:k=4
   ·simp only[Int.reduceEq,xq_,Em,pX,e,D8,true_or,or_true]
   ·by_cases g:k=5
    ·simp only[Int.reduceEq,xq_,Em,pX,g,D8,or_true]
    ·by_cases h:k=3
     ·simp only[Int.reduceEq,xq_,Em,pX,Bv,h,D8,true_or,false_or]
     ·by_cases i:k=6
      ·simp only[Int.reduceEq,xq_,Em,pX,Bv,i,D8,or_true,false_or]
      ·simp only[xq_,Em,pX,Bv,b,d,h,e,g,i,D8,false_or]
def oJ(z:Int):((by8 z).toNat:Int)=z % 256:=by
 unfold by8;have h:(BitVec.ofInt 8 z).toNat=(z % ((2 ^ 8:Nat):Int)).toNat:=BitVec.toNat_ofInt z;have b:(0:Int)<=z % 256:=Int.emod_nonneg _ J;rw[h,show((2 ^ 8:Nat):Int)=256 from W,Int.toNat_of_nonneg b]
def XC(z:Int):(AV.s (.int .u8 (IntKind.wrap .u8 z)))=Y (by8 z):=by
 show _=AV.s (.int .u8 ((by8 z).toNat:Int));rw[oJ,ahK W];rfl
def auc(H:ah)(f:Bool):cl0 175 [B f] H=ZC (Y (by8 (if f then 1 else 0)),H):=by
 refine iT (apv _ _ _ ?_);cases f
 ·simp only[xq_,abG];rfl
 ·simp only[xq_,abG];rfl
def avJ(H0 H:ah)(x:AV)(l:Q AV):Prop:=
 (x=zN/\l=[])∨(∃r g b,x=.sl r g 0 1 l.length l.length ZV/\H0.next<=r/\r<H.next/\H.get r=.blk g b l)∨(∃r b,x=.sl r 0 0 1 l.length l.length Z0/\H0.next<=r/\r<H.next/\H.get r=.blk 0 b l)
structure Acc(H0 H:ah)(x:AV)(l:List AV):Prop where
 gro:Gro H0 H
 base:H.base<=H0.next
 x:avJ H0 H x l
def Acc.is {H0 H:ah}{x:AV}{l:Q AV}(a:Acc H0 H x l):aH H x 1 l.length l:=by
 refine⟨V,?_⟩;rcases a.x with⟨rfl,rfl⟩|⟨r,g,b,rfl,e,d,h⟩|⟨r,b,rfl,i,e,d⟩
 ·exact⟨W,W,W⟩
 ·exact⟨W,W,⟨d,Nat.le_refl _⟩,b,l,h,V,O⟩
 ·exact⟨W,W,⟨e,Nat.le_refl _⟩,b,l,d,V,O⟩
def Acc.one {H0 H:ah}{x:AV}{l:Q AV}(a:Acc H0 H x l):One x:=by
 rcases a.x with⟨rfl,rfl⟩|⟨r,g,b,rfl,d,e,i⟩|⟨r,b,rfl,h,d,e⟩
 ·exact qG
 ·exact vZ
 ·exact vZ
def Acc.aud {H0 H H':ah}{x:AV}{l:Q AV}(a:Acc H0 H x l)(g:Gro H H'):Acc H0 H' x l:=by
 refine⟨a.gro.trans g,by rw[g.base];exact a.base,?_⟩;rcases a.x with h|⟨r,g',ty,h0,h1,h2,h3⟩|⟨r,ty,h0,h0',h1,h2⟩
 ·exact .inl h
 ·exact .inr (.inl ⟨r,g',ty,h0,h1,Nat.lt_of_lt_of_le h2 g.next,by rw[g.same r h2];exact h3⟩)
 ·exact .inr (.inr ⟨r,ty,h0,h0',Nat.lt_of_lt_of_le h1 g.next,by rw[g.same r h1];exact h2⟩)
def Gro.put {H0 H:ah}{r g ty:Nat}{xs:Q AV}(G:Gro H0 H)(e:H0.next<=r):Gro H0 (H.put r (.blk g ty xs)):=
 ⟨G.next,G.base,λx b=>by
  have:(H.put r (.blk g ty xs)).get x=H.get x:=by simp only[ah.put];rw[F V]
  rw[this];exact G.same x b,λh x k d=>by
  simp only[ah.put];split
  ·simp
  ·exact G.Q9 h x k d⟩
def Acc.app {H0 H:ah}{x:AV}{l:Q AV}(a:Acc H0 H x l){e by_ n:Nat}{y:AV}{new:Q AV}(hy:aH H y 1 n new)(hc:new.all AV.aU=Z0)(hn:n≠0)(hs:l.length+n<1000)(hby:by_<=16):
  ∃x' H',app e 1 by_ x y H=ZC (x',H')/\Acc H0 H' x' (l++new):=by
 have hnew:new.length=n:=by have:=hy.1;omega
 have⟨c1,c2⟩:=hy.wQ;have hb1:n*by_<=most:=by
  have:n*by_<=1000*16:=Nat.mul_le_mul (by omega) hby;unfold most;omega
 have hb2:(l.length+n)*by_<=most:=by
  have:(l.length+n)*by_<=1000*16:=Nat.mul_le_mul (by omega) hby;unfold most;omega
 have hm1:n<=most:=by unfold most;omega
 have hm2:l.length+n<=most:=by unfold most;omega
 rcases a.x with⟨rfl,rfl⟩|⟨r,g,ty,rfl,h1,h2,h3⟩|⟨r,ty,rfl,h0',h1,h2⟩
 ·refine⟨_,_,Un hy hc hn hm1 hb1,a.gro.trans (Gro.new _ _ _ _),by rw[iO];exact a.base,.inr (.inl ⟨H.next,0,e+gW,?_,a.gro.next,by rw[eu];omega,?_⟩)⟩
  ·simp only[List.nil_append,hnew]
  ·rw[aK W,List.nil_append]
 ·refine⟨.sl r (g+1) 0 1 (l.length+n) (l.length+n) ZV,H.put r (.blk (g+1) (grT e ty 0) (l++new)),?_,a.gro.put h1,a.base,.inr (.inl ⟨r,g+1,grT e ty 0,?_,h1,h2,?_⟩)⟩
  ·simp only[Proofs.YtgplhpgkompkmaaGreat.app,c1,c2];unfold dV;rw[YY ⟨hy.1,hc⟩];simp only[h3];rw[YY ⟨zac,zac,by omega⟩,F hn,F (by omega),YY ⟨hm2,hb2⟩];simp only[Bool.false_eq_true,zaf,List.drop_zero];rw[YY (Nat.le_trans a.base h1)];simp
  ·simp only[List.length_append,hnew]
  ·simp only[ah.put,zad]
 ·refine⟨.sl H.next 0 0 1 (l.length+n) (l.length+n) ZV,H.new (.blk 0 (e+gW) (l++new)),?_,a.gro.trans (Gro.new _ _ _ _),by rw[iO];exact a.base,.inr (.inl ⟨H.next,0,e+gW,?_,a.gro.next,by rw[eu];omega,aK W⟩)⟩
  ·simp only[Proofs.YtgplhpgkompkmaaGreat.app,c1,c2];unfold dV;rw[YY ⟨hy.1,hc⟩];simp only[h2];rw[YY ⟨zac,zac,by omega⟩,F hn,F (by omega),YY ⟨hm2,hb2⟩];simp
  ·simp only[List.length_append,hnew]
def acN(n:Int):∀k,k<8->(qY n).drop (8-(k+1))=by8 (n.fdiv (2 ^ (8*k)))::(qY n).drop (8-k)
 |0,_|1,_|2,_|3,_|4,_|5,_|6,_|7,_=>rfl
 |k+8,h=>absurd h V
def aue(H:ah)(hb:H.base<=H.next)(n:Int):∃y H',cl0 176 [I n] H=ZC (y,H')/\Acc H H' y ((qY n).map Y):=by
 have key:∀k:Nat,k<=8->∀(x:AV) (K:ah) (l:Q By),Acc H K x (l.map Y)->l.length+k=8->∃y H',FK cl0 [I n,x,I (8*(k:Int)-8)] K=ZC (y,H')/\Acc H H' y ((l++(qY n).drop (8-k)).map Y):=by
  intro k
  induction k with
  |zero=>
   intro hk x K l a i;have b:¬((0:Int)<=8*((0:Nat):Int)-8):=V
   refine⟨x,K,?_,by rw[show(qY n).drop (8-0)=[]from W,List.append_nil];exact a⟩;rw[Xa];simp only[xq_,b]
  |succ k j=>
   intro hk x K l a i;have o:8*((k+1:Nat):Int)-8=((8*k:Nat):Int):=V
   have b:(0:Int)<=((8*k:Nat):Int):=V
   have p:bi .shr 3 (I n) (I ((8*k:Nat):Int))=ZC (I (n.fdiv (2 ^ (8*k)))):=by
    have:=UC (P:=Tryz.prog) (t:=3) (k:=.i64) (k':=.i64) (a:=n) b;rw[Int.toNat_natCast,show min (8*k) (IntKind.bits .i64)=8*k from Nat.min_eq_left (show 8*k<=64 by omega)]at this;exact this
   have h:cv 3 5 (I (n.fdiv (2 ^ (8*k)))) K=ZC (Y (by8 (n.fdiv (2 ^ (8*k)))),K):=by rw[<-XC];exact ahk
   have⟨c,hc⟩:∃c,by8 (n.fdiv (2 ^ (8*k)))=c:=⟨_,W⟩
   rw[hc]at h;have q:bs 220 1 [(0,Y c)] K=ZC (.sl K.next 0 0 1 1 1 Z0,K.new (.blk 0 5 [Y c])):=(Wq J).trans (jE W W W);have u:=a.aud (Gro.new K 0 5 [Y c]);have⟨v,K',z,A⟩:=u.app (e:=5) (by_:=1) (n:=1) (jZ (e:=5) (H:=K) (ex:=Z0) (n:=1) (m:=1) (l:=[Y c]) W) W J (by simp;omega) J;have C:((8*k:Nat):Int)-8=8*(k:Int)-8:=V
   have w:=wrap_i64 (a:=8*(k:Int)-8) V V;have⟨y,H',d,g⟩:=j V v K' (l++[c]) (by simpa using A) (by simp;omega);refine⟨y,H',?_,?_⟩
   ·rw[Xa,o];simp only[xq_,b,p,h,q,z,lF,C,w,d]
   ·rw[acN n k V,hc]
    simpa using g
 have⟨y,H',d,g⟩:=key 8 (Nat.le_refl _) zN H [] ⟨Gro.refl H,hb,.inl ⟨W,W⟩⟩ W;refine⟨y,H',iT (apw _ _ _ ?_),by simpa using g⟩;have:(8*((8:Nat):Int)-8)=56:=rfl;rw[this]at d;simp only[aiK,d]
end
end Go.Proofs.YtgplhpgkompkmaaGreat
