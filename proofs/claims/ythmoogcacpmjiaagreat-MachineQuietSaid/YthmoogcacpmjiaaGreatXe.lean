/-
  Own work: an interpreter over named blocks, its soundness, and what the functions of this seat compute (part 5 of 11).
  Conditions: those of the statement alone.
-/
import Derived.Test.YthmoogcacpmjiaaGreatXd
set_option linter.all false
set_option linter.unusedSectionVars false
set_option linter.unusedVariables false
set_option linter.unusedSimpArgs false
namespace Go.Proofs.YthmoogcacpmjiaaGreat
noncomputable section
def BR(o:Option Nat):Int:=match o with
 | some i=> (i:Int)
 | none=> -1
theorem nC {α:Type}{p:α->Bool}:∀(l:List α) (i:Nat),(∀j a,j < i->l[j]?=some a->p a=false)->l.findIdx? p=((l.drop i).findIdx? p).map (· +i)
 | l,0,_=> by cases h:l.findIdx? p <;> simp [h]
 | [],i+1,_=> by simp
 | a::l,i+1,h=> by
  have h0:=h 0 a (by omega) rfl;rw [List.findIdx?_cons,h0,List.drop_succ_cons,nC l i λj b hj hb=> h (j+1) b (by omega) hb];simp only [zah,if_false,Option.map_map]
  congr 1
theorem Pq(H:aj){α:Type}{enc:α->List AV}(he:∀a,(enc a).length=3){x f:AV}{l:List α}(hx:aF H x 3 l.length (l.flatMap enc))(hl:l.length < 1000000000)(p:α->Bool)
  (hp:∀a∈l,qE Tryz.prog cl f [.agg (enc a)] H=some (B (p a),H)):cl 127 [x,f] H=some (I (BR (l.findIdx? p)),H):=by
 have e1:=hx.lnS;have e2:∀i a,l[i]?=some a->lda 3 (bZ x i) H=some (.agg (enc a),H):=λi a hi=> jG he hx hi;refine aN rfl rfl (ajC _ _ _ _ ?_);have key:∀k i,i+k=l.length->(∀j a,j < i->l[j]?=some a->p a=false)->Bq cl [x,f,I l.length,I i] H=some (I (BR (l.findIdx? p)),H):=by
  intro k
  induction k with
  | zero=>
   intro i hi hf;have h1:¬(i:Int) < l.length:=by omega
   have h2:l.findIdx? p=none:=by rw [nC l i hf,zaU (by omega)];rfl
   rw [Rj];simp -implicitDefEqProofs only [Int.reduceNeg,xq_,h1,h2,BR]
  | succ k ih=>
   intro i hi hf;have h1:(i:Int) < l.length:=by omega
   have h3:=hx.ix (k:=.i64) (i:=(i:Int)) (by omega) h1;obtain⟨a,ha⟩:∃a,l[i]?=some a:=⟨_,zab (by omega)⟩
   have h4:=e2 i a ha;have h5:=hp a (zaq ha);rw [zar] at h3;rw [Rj];cases hpa:p a with
   | true=>
    have h2:l.findIdx? p=some i:=by
     rw [nC l i hf,zbo (by omega),List.findIdx?_cons];rw [zab (by omega)] at ha;simp only [zaa] at ha;rw [ha,hpa];simp
    rw [hpa] at h5;simp -implicitDefEqProofs only [Int.reduceNeg,xq_,h1,h2,h3,h4,h5,BR]
   | false=>
    rw [hpa] at h5;have h6:(i:Int)+1=((i+1:Nat):Int):=by omega
    have h7:=wrap_i64 (a:=((i+1:Nat):Int)) (by omega) (by omega);have:=ih (i+1) (by omega) λj b hj hb=> by
     by_cases hji:j=i
     ·subst hji;rw [ha] at hb;cases hb;exact hpa
     ·exact hf j b (by omega) hb
    simp -implicitDefEqProofs only [Int.reduceNeg,xq_,h1,h3,h4,h5,aW,h6,h7,this]
 have:=key l.length 0 (by omega) (λj a hj=> by omega);simp -implicitDefEqProofs only [xq_,adp,e1];exact this
theorem L8(H:aj){α:Type}{enc:α->List AV}(he:∀a,(enc a).length=6){x f:AV}{l:List α}(hx:aF H x 6 l.length (l.flatMap enc))(hl:l.length < 1000000000)(p:α->Bool)
  (hp:∀a∈l,qE Tryz.prog cl f [.agg (enc a)] H=some (B (p a),H)):cl 119 [x,f] H=some (I (BR (l.findIdx? p)),H):=by
 have e1:=hx.lnS;have e2:∀i a,l[i]?=some a->lda 6 (bZ x i) H=some (.agg (enc a),H):=λi a hi=> jG he hx hi;refine aN rfl rfl (ajv _ _ _ _ ?_);have key:∀k i,i+k=l.length->(∀j a,j < i->l[j]?=some a->p a=false)->Bj cl [x,f,I l.length,I i] H=some (I (BR (l.findIdx? p)),H):=by
  intro k
  induction k with
  | zero=>
   intro i hi hf;have h1:¬(i:Int) < l.length:=by omega
   have h2:l.findIdx? p=none:=by rw [nC l i hf,zaU (by omega)];rfl
   rw [Rf];simp -implicitDefEqProofs only [Int.reduceNeg,xq_,h1,h2,BR]
  | succ k ih=>
   intro i hi hf;have h1:(i:Int) < l.length:=by omega
   have h3:=hx.ix (k:=.i64) (i:=(i:Int)) (by omega) h1;obtain⟨a,ha⟩:∃a,l[i]?=some a:=⟨_,zab (by omega)⟩
   have h4:=e2 i a ha;have h5:=hp a (zaq ha);rw [zar] at h3;rw [Rf];cases hpa:p a with
   | true=>
    have h2:l.findIdx? p=some i:=by
     rw [nC l i hf,zbo (by omega),List.findIdx?_cons];rw [zab (by omega)] at ha;simp only [zaa] at ha;rw [ha,hpa];simp
    rw [hpa] at h5;simp -implicitDefEqProofs only [Int.reduceNeg,xq_,h1,h2,h3,h4,h5,BR]
   | false=>
    rw [hpa] at h5;have h6:(i:Int)+1=((i+1:Nat):Int):=by omega
    have h7:=wrap_i64 (a:=((i+1:Nat):Int)) (by omega) (by omega);have:=ih (i+1) (by omega) λj b hj hb=> by
     by_cases hji:j=i
     ·subst hji;rw [ha] at hb;cases hb;exact hpa
     ·exact hf j b (by omega) hb
    simp -implicitDefEqProofs only [Int.reduceNeg,xq_,h1,h3,h4,h5,aW,h6,h7,this]
 have:=key l.length 0 (by omega) (λj a hj=> by omega);simp -implicitDefEqProofs only [xq_,ade,e1];exact this
theorem aaQ(H:aj)(c:Cfg)(h:c.ok=true)(o:Opn):cl 88 [.agg c.av,.agg o.av] H=some (B (c.right o),H):=by
 refine aX rfl rfl (anM _ _ _ _) ?_ eu;have e:=λH=> Ef H c h o.addr;have f1:c.right o=(decide (1<=o.kind) && decide (o.kind<=4) && !decide (c.cO o.addr=-1) && (decide (o.value=0) || decide (o.kind=2) || decide (o.kind=3))):=by simp [Cfg.right]
 rw [f1];by_cases a:1<=o.kind;rotate_left
 ·simp -implicitDefEqProofs only [Nat.reduceLT,Int.reduceNeg,xq_,hq_,LJ,aA,Opn.av,e,a,zaN]
 by_cases b:o.kind<=4;rotate_left
 ·simp -implicitDefEqProofs only [Nat.reduceLT,Int.reduceNeg,xq_,hq_,LJ,aA,Opn.av,e,a,b,zaK,zaN]
 by_cases d:c.cO o.addr=-1
 ·simp -implicitDefEqProofs only [Nat.reduceLT,Int.reduceNeg,xq_,hq_,LJ,aA,Opn.av,e,a,b,d,zaK,zaN,zae]
 by_cases f:o.value=0
 ·simp -implicitDefEqProofs only [Nat.reduceLT,Int.reduceNeg,xq_,hq_,LJ,aA,Opn.av,e,a,b,d,f,zak,Bool.true_or]
 by_cases g:o.kind=2
 ·simp -implicitDefEqProofs only [Nat.reduceLT,Int.reduceLE,Int.reduceEq,Int.reduceNeg,xq_,hq_,LJ,aA,Opn.av,e,d,f,g,zak,Bool.true_or,Bool.or_true]
 by_cases i:o.kind=3
 ·simp -implicitDefEqProofs only [Nat.reduceLT,Int.reduceLE,Int.reduceEq,Int.reduceNeg,xq_,hq_,LJ,aA,Opn.av,e,d,f,i,zak,Bool.or_true]
 ·simp -implicitDefEqProofs only [Nat.reduceLT,Int.reduceNeg,xq_,hq_,LJ,aA,Opn.av,e,a,b,d,f,g,i,zak,Bool.or_false,zb0]
theorem Pv(H:aj)(c:Cfg)(h:c.ok=true)(o:Opn){r ty:Nat}(hr:r < H.next)(hg:H.get r=.blk 0 ty c.av):cl 87 [.agg o.av,.ref r 0 0] H=some (B (!c.right o),H):=by
 refine aX rfl rfl (anL _ _ _ _) ?_ eu;have e:=λH=> aaQ H c h o;have e1:lda 8 (.ref r 0 0) (H.guard.new (.blk 0 86 o.av))=some (.agg (c.av.take 8),_):=fJ (off:=0) (n:=8) (by rw [aP (by rw [yO];exact hr),amm];exact hg) (zac 8);simp -implicitDefEqProofs only [Nat.reduceLT,xq_,hq_,aiT,aA (lq o),e1,e]
theorem Eh {o:Option Nat}:decide (0<=BR o)=o.isSome:=by
 cases o with
 | none=> rfl
 | some i=> simp [BR]
theorem X7(H:aj)(c:Cfg)(h:c.ok=true){v:AV}{l:List Opn}(hv:aF H v 3 l.length (l.flatMap Opn.av))(hl:l.length < 1000000000){r ty:Nat}(hr:r < H.next)(hg:H.get r=.blk 0 ty c.av):cl 85 [v,.ref r 0 0] H=some (B (!(decide (l.length<=24) && l.all c.right)),H):=by
 refine aX rfl rfl (anJ _ _ _ _) ?_ eu;have e1:=hv.guard.lnS;have e2:=Pq H.guard (enc:=Opn.av) dh (f:=.fn (.func 87) [] [.ref r 0 0]) hv.guard hl (λo=> !c.right o) (λo _=> by
  rw [xq (by kernel_rfl)];exact Pv H.guard c h o hr hg)
 have e3:cl 86 [v,.fn (.func 87) [] [.ref r 0 0]] H.guard=some (B (l.findIdx? λo=> !c.right o).isSome,H.guard):=by
  refine aN rfl rfl (anK _ _ _ _ ?_);simp -implicitDefEqProofs only [xq_,aiS,e2,Eh]
 have e4:(l.findIdx? λo=> !c.right o).isSome=!l.all c.right:=by
  rw [List.findIdx?_isSome,List.not_all_eq_any_not]
 by_cases h0:l.length<=24
 ·have h1:¬(24:Int) < l.length:=by omega
  simp -implicitDefEqProofs only [xq_,afu,e1,e3,e4,h0,h1,zaK]
 ·have h1:(24:Int) < l.length:=by omega
  simp -implicitDefEqProofs only [xq_,afu,e1,h0,h1,zaN,zak]
def RU(H:aj)(x:AV)(ps:List (List Opn)):Prop:=
 ∃cells:List AV,aF H x 1 ps.length cells/\∀(i:Nat) v l,cells[i]?=some v->ps[i]?=some l->aF H v 3 l.length (l.flatMap Opn.av)/\(l=[]->v=zN)
theorem RU.gV {H H':aj}{x:AV}{ps:List (List Opn)}(h:RU H x ps)(hn:H.next<=H'.next)(hg:∀r,r < H.next->H'.get r=H.get r):RU H' x ps:=by
 obtain⟨cells,h1,h2⟩:=h;exact⟨cells,h1.gV hn λr _ hr=> hg r hr,λi v l a b=> ⟨(h2 i v l a b).1.gV hn λr _ hr=> hg r hr,(h2 i v l a b).2⟩⟩
theorem yc {n:Nat}{p:Nat->Bool}:∀i,i<=n->(∀j,j < i->p j=false)->(List.range n).findIdx? p=((List.range' i (n - i)).findIdx? p).map (· +i):=by
 intro i hi hf;rw [nC (List.range n) i λj a hj ha=> by
  have:a=j:=by
   rw [zbk (by omega)] at ha
   simpa using ha.symm
  rw [this];exact hf j hj]
 congr 2
 rw [List.range_eq_range',List.drop_range'];simp
theorem Px(H:aj){x f:AV}{n:Nat}{cells:List AV}(hx:aF H x 1 n cells)(hl:n < 1000000000)(p:Nat->Bool)
  (hp:∀i v,cells[i]?=some v->qE Tryz.prog cl f [v] H=some (B (p i),H)):cl 126 [x,f] H=some (I (BR ((List.range n).findIdx? p)),H):=by
 have e1:=hx.lnS;have hcl:cells.length=n:=by have:=hx.1;omega
 refine aN rfl rfl (ajB _ _ _ _ ?_);have key:∀k i,i+k=n->(∀j,j < i->p j=false)->Bo cl [x,f,I n,I i] H=some (I (BR ((List.range n).findIdx? p)),H):=by
  intro k
  induction k with
  | zero=>
   intro i hi hf;have h1:¬(i:Int) < n:=by omega
   have h2:(List.range n).findIdx? p=none:=by rw [yc i (by omega) hf,show n - i=0 by omega];rfl
   rw [Ri];simp -implicitDefEqProofs only [Int.reduceNeg,xq_,h1,h2,BR]
  | succ k ih=>
   intro i hi hf;have h1:(i:Int) < n:=by omega
   have h3:=hx.ix (k:=.i64) (i:=(i:Int)) (by omega) h1;obtain⟨v,hv⟩:∃v,cells[i]?=some v:=⟨_,zab (by omega)⟩
   have h4:=hx.ld (i:=i) (by omega);rw [hv] at h4;have h5:=hp i v hv;rw [zar] at h3;rw [Ri];cases hpa:p i with
   | true=>
    have h2:(List.range n).findIdx? p=some i:=by
     rw [yc i (by omega) hf,show n - i=k+1 by omega,List.range'_succ,List.findIdx?_cons,hpa];simp
    rw [hpa] at h5;simp -implicitDefEqProofs only [Int.reduceNeg,xq_,h1,h2,h3,h4,h5,BR]
   | false=>
    rw [hpa] at h5;have h6:(i:Int)+1=((i+1:Nat):Int):=by omega
    have h7:=wrap_i64 (a:=((i+1:Nat):Int)) (by omega) (by omega);have:=ih (i+1) (by omega) λj hj=> by
     by_cases hji:j=i
     ·rw [hji];exact hpa
     ·exact hf j (by omega)
    simp -implicitDefEqProofs only [Int.reduceNeg,xq_,h1,h3,h4,h5,aW,h6,h7,this]
 have:=key n 0 (by omega) (λj hj=> by omega);simp -implicitDefEqProofs only [xq_,adn,e1];exact this
theorem ad9(H:aj)(c:Cfg)(h:c.ok=true){x:AV}{ps:List (List Opn)}(hx:RU H x ps)(hn:ps.length < 1000000000)(hl:∀l∈ps,l.length < 1000000000):cl 55 [.agg c.av,x] H=some (I (if c.pz ps then 0 else 1),H):=by
 refine aX rfl rfl (anc _ _ _ _) ?_ eu;have hx1:=hx.gV (H':=H.guard.new (.blk 0 40 c.av)) (by rw [nNew,yO];omega) λr hr=> by rw [aP (by rw [yO];exact hr),amm]
 obtain⟨cells,x1,x2⟩:=hx1;have hcl:cells.length=ps.length:=by have:=x1.1;omega
 let bad:List Opn->Bool:=λl=> !(decide (l.length<=24) && l.all c.right)
 have e2:=Px (H.guard.new (.blk 0 40 c.av)) (f:=.fn (.func 85) [] [.ref H.next 0 0]) x1 hn (λi=> bad (ps.getD i [])) (λi v hv=> by
  have hi:i < ps.length:=by rw [<-hcl];exact(zaf.1 hv).1
  have hpi:ps[i]?=some (ps.getD i []):=by simp [List.getD,zab hi]
  rw [xq (by kernel_rfl)];exact X7 _ c h (x2 i v _ hv hpi).1 (hl _ (zaq hpi)) (by rw [nNew,yO];omega) (aJ (by rw [yO])))
 have e4:((List.range ps.length).findIdx? λi=> bad (ps.getD i [])).isSome=!(ps.all λl=> decide (l.length<=24) && l.all c.right):=by
  rw [List.findIdx?_isSome,List.not_all_eq_any_not,Bool.eq_iff_iff,List.any_eq_true,List.any_eq_true];constructor
  ·rintro⟨i,hi,hb⟩;have hi:i < ps.length:=zaW.1 hi;exact⟨ps.getD i [],zaq (i:=i) (by simp [List.getD,zab hi]),hb⟩
  ·rintro⟨l,hm,hb⟩;obtain⟨i,hi,he⟩:=List.getElem_of_mem hm;have hg:ps.getD i []=l:=by simp [List.getD,zab hi,he]
   exact⟨i,zaW.2 hi,by rw [hg];exact hb⟩
 have e3:cl 84 [x,.fn (.func 85) [] [.ref H.next 0 0]] (H.guard.new (.blk 0 40 c.av))=some (B (!(ps.all λl=> decide (l.length<=24) && l.all c.right)),H.guard.new (.blk 0 40 c.av)):=by
  refine aN rfl rfl (anI _ _ _ _ ?_);simp -implicitDefEqProofs only [xq_,aiR,e2,Eh,e4]
 have l0:c.av[0]?=some (I c.nodes):=rfl;have e5:=x1.lnS;cases hb:ps.all λl=> decide (l.length<=24) && l.all c.right with
 | false=> simp -implicitDefEqProofs only [Nat.reduceLT,xq_,hq_,aaB,aA (dG c),e3,hb,zak,Cfg.pz,zaN]
 | true=>
  by_cases hc:(ps.length:Int)=c.nodes
  ·simp -implicitDefEqProofs only [Nat.reduceLT,xq_,hq_,aaB,aA (dG c),e3,e5,hb,l0,zae,Cfg.pz,hc]
  ·simp -implicitDefEqProofs only [Nat.reduceLT,xq_,hq_,aaB,aA (dG c),e3,e5,hb,l0,zae,zak,Cfg.pz,zaK,hc]
theorem Jl {c:Cfg}(h:c.ok=true){line:Int}(h0:0<=line)(h1:line < c.lines):c.first line≠[]:=by
 have B:=pI h;unfold Cfg.first
 rw [if_neg (by omega)];intro e;have:=congrArg List.length e;simp only [zaF,List.length_range,zau] at this;have:=B.words;omega
theorem Py {c:Cfg}(h:c.ok=true){line:Int}(h0:0<=line)(h1:line < c.lines){from_:Nat}(hf:(from_:Int)=min (line*c.words) c.init.length):
  setAt (List.replicate c.words.toNat zI) 0 (((c.init.map I).drop from_).take (min (c.init.length - from_) c.words.toNat))=(c.first line).map I:=by
 have B:=pI h;have hw:=B.words;have hlw:0<=line*c.words:=zch h0 (by omega);unfold Cfg.first
 rw [if_neg (by omega)]
 apply zbc
 intro i;have hlen:(((c.init.map I).drop from_).take (min (c.init.length - from_) c.words.toNat)).length=min (c.init.length - from_) c.words.toNat:=by
  rw [zat,zaQ,zaF];omega
 rw [kR (by rw [hlen,zb2];omega),hlen];rcases zaP i c.words.toNat with hi | hi
 ·simp only [zaE,zbk hi,zai];by_cases hc:i < c.init.length - from_
  ·rw [if_pos (by omega),Nat.sub_zero,zaB,if_pos (by omega),zaD,zaE];have e:from_=(line*c.words).toNat:=by omega
   rw [e];have hlt:(line*c.words).toNat+i < c.init.length:=by omega
   simp [List.getD,zab hlt]
  ·rw [if_neg (by omega),zbl,if_pos hi];have hge:c.init.length<=(line*c.words).toNat+i:=by omega
   simp [List.getD,zaG hge]
 ·rw [if_neg (by omega),zaG (by simp;omega),zaG (by simp;omega)]
theorem aaR(H:aj)(c:Cfg)(h:c.ok=true)(line:Int)(h0:0<=line)(h1:line < c.lines):cl 140 [.agg c.av,I line] H=some (dat (c.first line),H):=by
 have B:=pI h;have hw:=B.words;have hlw:0<=line*c.words:=zch h0 (by omega);have apf:line*c.words<=8*4:=zbW (by have:=B.lines;omega) hw.2 (by omega) (by omega);have w:=wrap_i64 (a:=line*c.words) (by omega) (by omega);have l1:c.av[1]?=some (I c.lines):=rfl;have l2:c.av[2]?=some (I c.words):=rfl;have l7:c.av[7]?=some (dat c.init):=rfl;let H1:=(H.guard.new (.blk 0 40 c.av)).new (.blk 0 3 (bG [zI] c.words.toNat));have e1:=V6 (e:=3) (m:=1) (by_:=8) (z:=[zI]) (n:=c.words) (H:=H.guard.new (.blk 0 40 c.av)) rfl rfl (by omega) (by omega) (by decide);have e2:=λH=> (jh H c.init).lnS;have hm:0<=min (line*c.words) (c.init.length:Int):=by omega
 obtain⟨y,e3,e4⟩:=(jh H1 c.init).from_ (k:=.i64) (lo:=min (line*c.words) (c.init.length:Int)) hm (by omega);obtain⟨H2,e5,e6,e7,e8,e9⟩:=ahS (H:=H1) (r:=H.next+1) (g:=0) (off:=0) (m:=1) (len:=c.words.toNat) (cap:=c.words.toNat) (ex:=true) (ty:=3) (aJ (by rw [nNew,yO])) (by show H.next<=_;omega) (by rw [jF];simp) e4 (xk (uP _) _);refine fO rfl rfl (ajE _ _ _ _ (r:=(.sl (H.next+1) 0 0 1 c.words.toNat c.words.toNat true,H2)) ?_) ?_
 ·have n0:¬line < 0:=by omega
  have n1:¬c.lines<=line:=by omega
  simp only [nNew,yO] at e1;simp -implicitDefEqProofs only [Nat.reduceLT,xq_,hq_,adr,aA (dG c),n0,n1,l1,l2,l7,e1,e2,gG,w,VE,e3,e5,H1]
 ·rw [tY (Jl h h0 h1)];have hf:=Py h h0 h1 (from_:=(min (line*c.words) (c.init.length:Int)).toNat) (by omega);rw [jF,zbG,zbG,hf] at e6;have hlen:(c.first line).length=c.words.toNat:=by
   unfold Cfg.first
   rw [if_neg (by omega)];simp
  rw [hlen];refine jv (by omega) (cells:=(c.first line).map I) ?_ (fH _ λx hx=> uQ _ x hx _ _);simp only [aY,e6];rw [if_pos ⟨trivial,by simp [hlen]⟩,zaR,zas (by simp [hlen])]
theorem aaS(c:Cfg)(rows:Rows)(n:Int)(r:Row):(Aw c rows).set 8 (.map .i64 (GV (V7 (λr=> .agg r.av) rows) n (.agg r.av)))=Aw c (mF rows n r):=by
 have:=DI (f:=λr:Row=> AV.agg r.av) rows n r;rw [this];rfl
theorem X8(H:aj)(hb:H.base<=H.next)(c:Cfg)(h:c.ok=true)(me:Int):∃H' q,cl 92 [.agg c.av,I me] H=some (.ref q 0 0,H')/\Made H H' (upd nil0 q (Aw c (c.iJ me c.lines.toNat))):=by
 have B:=pI h;let Hb:=H.new (.blk 0 40 c.av);let Hm:=Hb.new (.map .i64 []);let H0:=Hm.new (.blk 0 205 (c.av++[.mp (H.next+1)]));have M0:Made Hb H0 (upd nil0 (H.next+2) (Aw c [])):=by
  refine LZ (H':=Hm) (by simp only [Hb,nNew];omega) (by simp only [Hm,Hb,nNew]) rfl (λr hr=> aP hr) (by rw [za7,dG];rfl) (by simp [Aw]) (λr=> if r=H.next+1 then some 8 else none) λi cc x hc hx=> ?_;by_cases hi:i < 8
  ·left;simp only [Aw] at hc;rw [zaJ (by simp [Cfg.av];omega),zaE] at hc;rw [zaJ (by simp [Cfg.av];omega)] at hx;rw [hx] at hc;exact(za2 hc).symm
  ·have:i=8:=by
    have:=(zaf.1 hx).1;simp [Cfg.av] at this;omega
   subst this;right;right;cases hc;cases hx;exact⟨H.next+1,.i64,rfl,by simp only [Hb,nNew];omega,by omega,by simp,aJ (by simp only [Hb,nNew]),.inl rfl⟩
 have key:∀k i,i+k=c.lines.toNat->∀Hi,Made Hb Hi (upd nil0 (H.next+2) (Aw c (c.iJ me i)))->∃H',I8 cl [I me,.ref H.next 0 0,.ref (H.next+2) 0 0,I c.lines,I i] Hi=some (.ref (H.next+2) 0 0,H')/\Made Hb H' (upd nil0 (H.next+2) (Aw c (c.iJ me c.lines.toNat))):=by
  intro k
  induction k with
  | zero=>
   intro i hi Hi M;have h1:¬(i:Int) < c.lines:=by omega
   rw [Xe];refine⟨Hi,?_,by rw [show c.lines.toNat=i by omega];exact M⟩;simp -implicitDefEqProofs only [Int.reduceNeg,xq_,h1]
  | succ k ih=>
   intro i hi Hi M;have h1:(i:Int) < c.lines:=by omega
   have hbx:Hi.get H.next=.blk 0 40 c.av:=by rw [M.same _ (by simp only [Hb,nNew];omega)];exact aJ rfl
   have hbn:H.next < Hi.next:=zax (by simp only [Hb,nNew];omega) M.next
   have e1:lda 8 (.ref H.next 0 0) Hi=some (.agg c.av,Hi):=(fJ (off:=0) (n:=8) hbx (zac 8)).trans rfl;have e2:=Ee Hi c h i;have h6:(i:Int)+1=((i+1:Nat):Int):=by omega
   have h7:=wrap_i64 (a:=((i+1:Nat):Int)) (by have:=B.lines;omega) (by have:=B.lines;omega);have tail:∀Hj,Made Hb Hj (upd nil0 (H.next+2) (Aw c (c.iJ me (i+1))))->∃H',I9 cl (I me) (.ref H.next 0 0) (.ref (H.next+2) 0 0) (I c.lines) (I i) Hj=some (.ref (H.next+2) 0 0,H')/\Made Hb H' (upd nil0 (H.next+2) (Aw c (c.iJ me c.lines.toNat))):=by
    intro Hj Mj;obtain⟨H',a1,a2⟩:=ih (i+1) (by omega) Hj Mj;refine⟨H',?_,a2⟩;simp -implicitDefEqProofs only [xq_,I9,aW,h6,h7,a1]
   rw [Xe];by_cases hm:c.gX i=me
   ·obtain⟨r,f1,f2,f3,f4⟩:=M.good.map (q:=H.next+2) upd_same (i:=8) rfl;obtain⟨H',g1,g2,g3,g4⟩:=(f4 (by rw [M.base];simp only [Hb,bNew,nNew];omega)).1 i (.agg (Row.av ⟨0,-1,c.first i⟩));simp only [Row.av] at g1;have e3:=aaR Hi.guard c h i (by omega) h1;have Mj:Made Hb H' (upd nil0 (H.next+2) (Aw c (c.iJ me (i+1)))):=by
     refine(M.step g2 g3).as ?_;rw [nI,aaS];simp only [Cfg.iJ,hm,if_true]
    obtain⟨H2,t1,t2⟩:=tail H' Mj;refine⟨H2,?_,t2⟩;simp -implicitDefEqProofs only [Int.reduceNeg,Nat.reduceAdd,setAt,xq_,hq_,h1,e1,e2,hm,f1,e3,ahm,gJ,dL,ab7,g1,t1]
   ·have hm':¬(c.gX i=me):=hm;obtain⟨H2,t1,t2⟩:=tail Hi (M.as (by simp only [Cfg.iJ,hm,if_false]));refine⟨H2,?_,t2⟩;simp -implicitDefEqProofs only [Int.reduceNeg,xq_,h1,e1,e2,hm,t1]
 obtain⟨H',a1,a2⟩:=key c.lines.toNat 0 (by omega) H0 M0;refine⟨H',H.next+2,aN rfl rfl (anN _ _ _ _ (r:=(_,H')) ?_),a2.vP⟩;have l1:c.av[1]?=some (I c.lines):=rfl;have e:∀r,bd 205 [(0,.agg c.av),(1,.mp r)]=some (.agg (c.av++[.mp r])):=λr=> by
  simp -implicitDefEqProofs only [xq_,ahx,gJ,dL,aco,Cfg.av,dD];rfl
 have e2:∀r,(c.av++[AV.mp r]).all AV.aG=true:=λr=> by rw [za7,dG];rfl
 simp -implicitDefEqProofs only [Nat.reduceLT,xq_,hq_,aiW,aA (dG c),e,aA (e2 _),l1];exact a1
theorem iQ {b n:Nat}{H1:aj}{g g':Store}{q:Nat}{cs:List Cell}(G:Good b H1 g)(h:g q=some cs)(hn:H1.next=n):cup n g g' q=some cs:=by
 unfold cup;rw [if_pos (by have:=G.lt h;omega),h]
theorem jS {b n:Nat}{H1:aj}{g g':Store}{q:Nat}{cs:List Cell}(G:Good b H1 g')(h:g' q=some cs)(hn:n<=b):cup n g g' q=some cs:=by
 unfold cup;rw [if_neg (by have:=G.le h;omega),h]
theorem drawn {H H':aj}{x:Option (AV × aj)}{v:AV}{g:Store}(e:x=some (v,H'))(M:Made H.guard H' g):∃H2,unG H x=some (v,H2)/\Made H H2 g:=
 ⟨_,by rw [e];rfl,M.aaK⟩
theorem iH {H:aj}{r:Nat}{ty:TypeId}{c:Cfg}(h:H.get r=.blk 0 ty c.av):lda 8 (.ref r 0 0) H=some (.agg c.av,H):=(fJ (off:=0) (n:=8) h (zac 8)).trans rfl
theorem aF.X9 {P:Program}{t e:TypeId}(h:P.underlying t=some (.slice e)){H:aj}{x:AV}{m n:Nat}{cells:List AV}(hx:aF H x m n cells)(hn:n≠0):mY P .eql t x (.s (.slice none 0 0))=some (B false):=by
 obtain⟨_,hx⟩:=hx;cases x with
 | sl r g o m n c ex=> exact yP h
 | vs n m l=> exact qc h
 | s v=>
  cases v with
  | slice a b c=>
   cases a with
   | none=> exact absurd hx.2.2 hn
   | some a=> exact hx.elim
  | _=> exact hx.elim
 | _=> exact hx.elim
def Az(d t:Nat)(c:Cfg)(me:Int):List Cell:=[.av (.ref d 0 0),.av (.ref t 0 0)]++c.av.map .av++[.av (I me)]
def kV(g:Store)(q d t:Nat)(c:Cfg)(me:Int)(h:Home):Prop:=g q=some (Az d t c me)/\g d=some (Aw c h.rows)/\g t=some (fP h.turns)
theorem L9 {xs:List AV}{cs:List Cell}(h:cs=xs.map .av):∀(i:Nat) (c:Cell) (x:AV),cs[i]?=some c->xs[i]?=some x->c=.av x∨(x=zN/\∃m,c=.seq m []):=by
 subst h;intro i c x hc hx;rw [zaE,hx] at hc;exact .inl (za2 hc).symm
theorem afG(H:aj)(hb:H.base<=H.next)(c:Cfg)(h:c.ok=true)(me:Int):∃H' q d t g',cl 61 [.agg c.av,I me] H=some (.ref q 0 0,H')/\Made H H' g'/\kV g' q d t c me (.new c me):=by
 let H1:=H.new (.blk 0 40 c.av);obtain⟨H2',d,e1,M1⟩:=X8 H1.guard (zac _) c h me;obtain⟨H2,e1,M1⟩:=drawn e1 M1;obtain⟨H3',t,e2,M2⟩:=aaN H2.guard;obtain⟨H3,e2,M2⟩:=drawn e2 M2;let xs:List AV:=[.ref d 0 0,.ref t 0 0]++c.av++[I me]
 have hall:xs.all AV.aG=true:=by
  simp only [xs,za7,dG];rfl
 have M3:Made H3 (H3.new (.blk 0 150 xs)) (upd nil0 H3.next (Az d t c me)):=jH hall (by simp [xs,Az]) (L9 (by simp [xs,Az]));have g1:H1.get H.next=.blk 0 40 c.av:=aJ rfl
 have l1:H.next < H1.next:=by simp only [H1,nNew];omega
 have b1:=iH g1;have g2:H2.get H.next=.blk 0 40 c.av:=by rw [M1.same _ l1,g1]
 have g3:H3.get H.next=.blk 0 40 c.av:=by rw [M2.same _ (zax l1 M1.next),g2]
 have b3:=iH g3;refine⟨_,H3.next,d,t,_,aN rfl rfl (anj _ _ _ _ (r:=(_,H3.new (.blk 0 150 xs))) ?_),((M1.trans M2).trans M3).vP,?_⟩
 ·have e:bd 150 [(0,.ref d 0 0),(1,.ref t 0 0),(2,.agg c.av),(3,I me)]=some (.agg xs):=by
   simp -implicitDefEqProofs only [xq_,aht,gJ,dL,ach,Cfg.av,dD];rfl
  simp only [H1] at e1 b1;simp -implicitDefEqProofs only [Nat.reduceLT,xq_,hq_,aiF,aA (dG c),b1,e1,e2,b3,e,aA hall]
 ·refine⟨jS M3.good upd_same (zac _),iQ (M1.good.merge M2) (iQ M1.good upd_same rfl) rfl,iQ (M1.good.merge M2) (jS M2.good upd_same (zac _)) rfl⟩
theorem afH(H:aj)(l:List Opn)(hl:l.length < 1000000000){x:AV}(hx:aF H x 3 l.length (l.flatMap Opn.av))(h0:l=[]->x=zN):∃H' q,cl 60 [x] H=some (.ref q 0 0,H')/\Made H H' (upd nil0 q (nZ ⟨l,[],false⟩)):=by
 have e1:=aaO H l hl hx h0 λhn=> hx.X9 Tryz.underlying98 λe=> hn (zao e);have hc:(vsl 3 Opn.av l).cells=[vsl 3 Opn.av l]:=Dx;refine⟨_,H.next,aN rfl rfl (anh _ _ _ (r:=(_,H.new (.blk 0 126 [vsl 3 Opn.av l,zN,zB]))) ?_),jH ?_ rfl λi c x hc hx=> ?_⟩
 ·simp -implicitDefEqProofs only [Nat.reduceLT,Nat.reduceAdd,setAt,xq_,hq_,aiE,e1,ahr,gJ,dL,acf,aA]
 ·simp -implicitDefEqProofs only [hq_]
 ·match i with
  | 0=> left;cases hc;cases hx;rfl
  | 1=> right;cases hc;cases hx;exact⟨rfl,1,rfl⟩
  | 2=> left;cases hc;cases hx;rfl
  | i+3=> cases hc
theorem Made.add {H H1 H2:aj}{g:Store}{q:Nat}{cs:List Cell}(M:Made H H1 g)(M':Made H1 H2 (upd nil0 q cs)):Made H H2 (upd g q cs):=
 (M.trans M').as ((M.good.akU (M'.lt upd_same).1).symm)
def Jm(a:Nat->Nat)(c:Cfg)(me:Int)(d:bC)(num:Int):List AV:=[.ref (a 1) 0 0,.ref (a 2) 0 0]++c.av++[I me,.ref (a 3) 0 0]++d.av++[I num]
def uf(a:Nat->Nat)(c:Cfg)(me:Int)(d:bC)(num:Int):List Cell:=(Jm a c me d num).map .av
def qo(g:Store)(a:Nat->Nat)(c:Cfg)(me:Int)(n:Node):Prop:=
 g (a 0)=some (uf a c me n.deal n.num)/\g (a 1)=some (bf n.cache)/\g (a 2)=some (nZ n.proc)/\kV g (a 3) (a 4) (a 5) c me n.home
theorem Me {a:Nat->Nat}{c:Cfg}{me:Int}{d:bC}{num:Int}:(Jm a c me d num).all AV.aG=true:=by
 simp only [Jm,za7,dG,aO];rfl
def six(x0 x1 x2 x3 x4 x5:Nat):Nat->Nat
 | 0=> x0
 | 1=> x1
 | 2=> x2
 | 3=> x3
 | 4=> x4
 | _=> x5
theorem afI(H:aj)(c:Cfg)(h:c.ok=true)(me:Int)(l:List Opn)(hl:l.length < 1000000000){x:AV}(hx:aF H x 3 l.length (l.flatMap Opn.av))(h0:l=[]->x=zN):
  ∃H' a g',cl 33 [.agg c.av,I me,x] H=some (.ref (a 0) 0 0,H')/\Made H H' g'/\qo g' a c me (.new c me l):=by
 have Bd:=pI h;let H1:=H.new (.blk 0 40 c.av);obtain⟨H2',q1,e1,M1⟩:=aaL H1.guard c.sets c.ways Bd.sets.1 Bd.ways.1;obtain⟨H2,e1,M1⟩:=drawn e1 M1;have hx2:aF H2 x 3 l.length (l.flatMap Opn.av):=(hx.new (.blk 0 40 c.av)).gV M1.next λr _ hr=> M1.same r hr
 obtain⟨H3',q2,e2,M2⟩:=afH H2.guard l hl hx2.guard h0;obtain⟨H3,e2,M2⟩:=drawn e2 M2;obtain⟨H4',q3,q4,q5,g4,e3,M3,I3⟩:=afG H3.guard (zac _) c h me;obtain⟨H4,e3,M3⟩:=drawn e3 M3;let a:=six H4.next q1 q2 q3 q4 q5
 let xs:=Jm a c me .zero 0;have M4:Made H4 (H4.new (.blk 0 66 xs)) (upd nil0 H4.next (uf a c me .zero 0)):=jH Me (by simp [xs,uf]) (L9 rfl);have g1:H1.get H.next=.blk 0 40 c.av:=aJ rfl
 have l1:H.next < H1.next:=by simp only [H1,nNew];omega
 have l3:H.next < H3.next:=zax l1 (zay M1.next M2.next)
 have b1:=iH g1;have g2:H2.get H.next=.blk 0 40 c.av:=by rw [M1.same _ l1,g1]
 have g3:H3.get H.next=.blk 0 40 c.av:=by rw [M2.same _ (zax l1 M1.next),g2]
 have b3:=iH g3;have G12:=M1.good.merge M2;have akV:=G12.merge M3;refine⟨_,a,_,aN rfl rfl (amX _ _ _ _ _ (r:=(_,H4.new (.blk 0 66 xs))) ?_),(((M1.trans M2).trans M3).trans M4).vP,?_⟩
 ·have e:bd 66 [(0,.ref q1 0 0),(1,.ref q2 0 0),(2,.agg c.av),(3,I me),(4,.agg [.ref q3 0 0])]=some (.agg xs):=by
   simp -implicitDefEqProofs only [xq_,amj,gJ,dL,ahi,Cfg.av,dD];rfl
  have l3:c.av[3]?=some (I c.sets):=rfl;have l4:c.av[4]?=some (I c.ways):=rfl;have bx:∀r,(AV.ref r 0 0).cells=[.ref r 0 0]:=λ_=> rfl;have eb:∀r,bd 64 [(0,.ref r 0 0)]=some (.agg [.ref r 0 0]):=λr=> by
   simp -implicitDefEqProofs only [xq_,ami,gJ,dL,ahh];rfl
  simp only [H1] at e1 b1;simp -implicitDefEqProofs only [Nat.reduceLT,xq_,hq_,aip,aA (dG c),l3,l4,e1,e2,e3,b3,eb,e,aA Me,xs];rfl
 ·refine⟨jS M4.good upd_same (zac _),iQ akV (iQ G12 (iQ M1.good upd_same rfl) rfl) rfl,iQ akV (iQ G12 (jS M2.good upd_same (zac _)) rfl) rfl,?_⟩;obtain⟨i1,i2,i3⟩:=I3;exact⟨iQ akV (jS M3.good i1 (zac _)) rfl,iQ akV (jS M3.good i2 (zac _)) rfl,iQ akV (jS M3.good i3 (zac _)) rfl⟩
def lF(a:Nat->Nat):List AV:=[.ref (a 0) 0 0,.ref (a 1) 0 0,.ref (a 2) 0 0,.ref (a 3) 0 0]
def aaT(P:Nat->Nat->Nat)(n:Nat):List Cell:=[.seq 4 ((List.range n).flatMap λi=> lF (P i))]
def rY(g:Store)(a:Nat->Nat)(c:Cfg)(p:Port):Prop:=
 g (a 0)=some (kT p.rq c.out)/\g (a 1)=some (kT p.rin c.inn)/\g (a 2)=some (kT p.an c.out)/\g (a 3)=some (kT p.ain 1)
def Pz(P:Nat->Nat->Nat)(n:Nat):Prop:=∀i j s t,i < n->j < n->s < 4->t < 4->P i s=P j t->i=j/\s=t
def fD(g:Store)(f:Nat)(P:Nat->Nat->Nat)(c:Cfg)(fab:Fab):Prop:=
 g f=some (aaT P fab.l.length)/\(∀i p,fab.l[i]?=some p->rY g (P i) c p)/\fab.out=c.out/\fab.inn=c.inn
def four(x0 x1 x2 x3:Nat):Nat->Nat
 | 0=> x0
 | 1=> x1
 | 2=> x2
 | _=> x3
theorem Gn {P P':Nat->Nat->Nat}:∀n,(∀i,i < n->P' i=P i)->(List.range n).flatMap (λi=> lF (P' i))=(List.range n).flatMap λi=> lF (P i)
 | 0,_=> rfl
 | n+1,h=> by
  rw [zb4,zbA,zbA,Gn n λi hi=> h i (by omega)];simp only [zaH,List.flatMap_nil,h n (by omega)]
theorem lQ(P:Nat->Nat->Nat)(n:Nat):((List.range n).flatMap λi=> lF (P i)).length=n*4:=by
 rw [bn (m:=4) (λ_=> rfl),List.length_range]
theorem rY.ext {g g':Store}{a:Nat->Nat}{c:Cfg}{p:Port}(h:rY g a c p)(hg:∀s,s < 4->g' (a s)=g (a s)):rY g' a c p:=by
 obtain⟨h0,h1,h2,h3⟩:=h;exact⟨by rw [hg 0 (by omega),h0],by rw [hg 1 (by omega),h1],by rw [hg 2 (by omega),h2],by rw [hg 3 (by omega),h3]⟩
theorem rY.some {g:Store}{a:Nat->Nat}{c:Cfg}{p:Port}(h:rY g a c p){s:Nat}(hs:s < 4):∃l r,g (a s)=some (kT l r):=by
 obtain⟨h0,h1,h2,h3⟩:=h
 match s,hs with
 | 0,_=> exact⟨_,_,h0⟩
 | 1,_=> exact⟨_,_,h1⟩
 | 2,_=> exact⟨_,_,h2⟩
 | 3,_=> exact⟨_,_,h3⟩
theorem Ya(H:aj)(hb:H.base<=H.next)(c:Cfg)(h:c.ok=true):∃H' f P g',cl 30 [.agg c.av] H=some (.ref f 0 0,H')/\Made H H' g'/\fD g' f P c (.new c)/\Pz P c.nodes.toNat:=by
 have Bd:=pI h;let H1:=H.new (.blk 0 40 c.av);let H2:=H1.new (.blk 0 124 [zN]);let f:=H.next+1
 have M0:Made H1 H2 (upd nil0 f (aaT (λ_ _=> 0) 0)):=jH rfl rfl λi c x hc hx=> by
  match i with
  | 0=> right;cases hc;cases hx;exact⟨rfl,4,rfl⟩
  | i+1=> cases hc
 have l0:c.av[0]?=some (I c.nodes):=rfl;have l5:c.av[5]?=some (I c.out):=rfl;have l6:c.av[6]?=some (I c.inn):=rfl;have key:∀k i,i+k=c.nodes.toNat->∀Hi gi P,Made H1 Hi gi->gi f=some (aaT P i)->(∀j,j < i->rY gi (P j) c .zero)->Pz P i->
   ∃H' g' P',IU cl [.ref H.next 0 0,.ref f 0 0,I c.nodes,I i] Hi=some (.ref f 0 0,H')/\Made H1 H' g'/\g' f=some (aaT P' c.nodes.toNat)/\(∀j,j < c.nodes.toNat->rY g' (P' j) c .zero)/\Pz P' c.nodes.toNat:=by
  intro k
  induction k with
  | zero=>
   intro i hi Hi gi P M hf hp hj;have h1:¬(i:Int) < c.nodes:=by omega
   have hi':c.nodes.toNat=i:=by omega
   rw [WU];refine⟨Hi,gi,P,?_,M,by rw [hi'];exact hf,by rw [hi'];exact hp,by rw [hi'];exact hj⟩;simp -implicitDefEqProofs only [xq_,h1]
  | succ k ih=>
   intro i hi Hi gi P M hf hp hj;have h1:(i:Int) < c.nodes:=by omega
   have h6:(i:Int)+1=((i+1:Nat):Int):=by omega
   have h7:=wrap_i64 (a:=((i+1:Nat):Int)) (by have:=Bd.nodes;omega) (by have:=Bd.nodes;omega);have lt1:H.next < H1.next:=by simp only [H1,nNew];omega
   have bx:∀H':aj,(∀r,r < H1.next->H'.get r=H1.get r)->H'.get H.next=.blk 0 40 c.av:=λH' hs=> by rw [hs _ lt1];exact aJ rfl
   have ld5:∀H':aj,(∀r,r < H1.next->H'.get r=H1.get r)->ld (.ref H.next 0 5) H'=some (I c.out,H'):=λH' hs=> by rw [dJ (bx H' hs),l5];rfl
   have ld6:∀H':aj,(∀r,r < H1.next->H'.get r=H1.get r)->ld (.ref H.next 0 6) H'=some (I c.inn,H'):=λH' hs=> by rw [dJ (bx H' hs),l6];rfl
   obtain⟨x,hx,cx⟩:=M.good.seq hf (i:=0) rfl;obtain⟨Ha',q1,a1,Ma⟩:=X5 Hi.guard c.out (by have:=Bd.out;omega);obtain⟨Ha,a1,Ma⟩:=drawn a1 Ma;have Na:=M.add Ma;obtain⟨Hb',q2,a2,Mb⟩:=RP Ha.guard c.inn (by have:=Bd.inn;omega);obtain⟨Hb,a2,Mb⟩:=drawn a2 Mb;have Nb:=Na.add Mb;obtain⟨Hc',q3,a3,Mc⟩:=X5 Hb.guard c.out (by have:=Bd.out;omega);obtain⟨Hc,a3,Mc⟩:=drawn a3 Mc;have Nc:=Nb.add Mc;obtain⟨Hd',q4,a4,Md⟩:=RP Hc.guard 1 (by omega);obtain⟨Hd,a4,Md⟩:=drawn a4 Md;have Nd:=Nc.add Md;have o1:=Ma.lt upd_same;have o2:=Mb.lt upd_same;have o3:=Mc.lt upd_same;have o4:=Md.lt upd_same;have hfl:=M.good.lt hf;have cd:Cur H1.next Hd f 0 x 4 _:=(((cx.ext Ma.next Ma.same).ext Mb.next Mb.same).ext Mc.next Mc.same).ext Md.next Md.same
   let a:=four q1 q2 q3 q4;let o:dQ:=.blk 0 121 (lF a);let g4:=upd (upd (upd (upd gi q1 (kT [] c.out)) q2 (kT [] c.inn)) q3 (kT [] c.out)) q4 (kT [] 1);have low:∀q,q < Hi.next->g4 q=gi q:=λq hq=> by
    simp only [g4];rw [upd_ne (by omega),upd_ne (by omega),upd_ne (by omega),upd_ne (by omega)]
   have hf4:g4 f=some (aaT P i):=by rw [low f hfl,hf]
   obtain⟨x',He,Hf,t1,t2,t3,t4⟩:=(Nd.good.new o).append (e:=121) (by_:=32) (by rw [bNew,Nd.base];simp only [H1,bNew,nNew];omega) hf4 (i:=0) rfl (by decide) (lQ P i) (cd.new o) (jy (ex:=true) (n:=1) (m:=4) (l:=lF a) rfl) rfl (by have:=Bd.nodes;unfold most;omega) (by have:=Bd.nodes;unfold most;omega);let P':Nat->Nat->Nat:=λj=> if j=i then a else P j
   have hP:∀j,j < i->P' j=P j:=λj hj=> by simp only [P'];rw [if_neg (by omega)]
   have hPi:P' i=a:=by simp only [P',if_true]
   have Mf:Made H1 Hf (upd g4 f (aaT P' (i+1))):=by
    refine((Nd.new o).step t3 t4).as ?_
    congr 1
    simp only [aaT,List.set_cons_zero];rw [zb4,zbA,Gn i hP,zaH,List.flatMap_nil,zbh,hPi]
   have hq:∀s,s < 4->Hi.next<=a s:=λs hs=> by
    match s,hs with
    | 0,_=> exact o1.1
    | 1,_=> exact zay Ma.next o2.1
    | 2,_=> exact zay Ma.next (zay Mb.next o3.1)
    | 3,_=> exact zay Ma.next (zay Mb.next (zay Mc.next o4.1))
   have hpl:∀j,j < i->∀s,s < 4->P j s < Hi.next:=λj hji s hs=> by
    obtain⟨l,r,hg⟩:=(hp j hji).some hs;exact M.good.lt hg
   obtain⟨H',g',P'',r1,r2⟩:=ih (i+1) (by omega) Hf _ P' Mf upd_same (λj hj1=> by
    by_cases hji:j=i
    ·subst hji;rw [hPi];have h4:∀s,s < 4->a s≠f:=λs hs=> by have:=hq s hs;omega
     refine rY.ext (g:=g4) ⟨?_,?_,?_,?_⟩ λs hs=> upd_ne (h4 s hs)
     ·show g4 q1=_;simp only [g4];rw [upd_ne (by omega),upd_ne (by omega),upd_ne (by omega),upd_same];rfl
     ·show g4 q2=_;simp only [g4];rw [upd_ne (by omega),upd_ne (by omega),upd_same];rfl
     ·show g4 q3=_;simp only [g4];rw [upd_ne (by omega),upd_same];rfl
     ·show g4 q4=_;simp only [g4];rw [upd_same];rfl
    ·rw [hP j (by omega)];refine(hp j (by omega)).ext λs hs=> ?_;have hlt:=hpl j (by omega) s hs;obtain⟨l,r,hg⟩:=(hp j (by omega)).some hs;have:P j s≠f:=λe=> by rw [e,hf] at hg;cases hg
     rw [upd_ne this,low _ hlt]) (λj k s t hj1 hk1 hs ht e=> by
    by_cases hji:j=i
    ·by_cases hki:k=i
     ·subst hji;subst hki;refine⟨rfl,?_⟩;rw [hPi] at e
      match s,hs,t,ht with
      | 0,_,0,_ | 1,_,1,_ | 2,_,2,_ | 3,_,3,_=> rfl
      | 0,_,1,_ | 0,_,2,_ | 0,_,3,_ | 1,_,0,_ | 1,_,2,_ | 1,_,3,_ | 2,_,0,_ | 2,_,1,_ | 2,_,3,_ | 3,_,0,_ | 3,_,1,_ | 3,_,2,_=> simp only [a,four] at e;omega
     ·subst hji;rw [hPi,hP k (by omega)] at e;have:=hq s hs;have:=hpl k (by omega) t ht;omega
    ·by_cases hki:k=i
     ·subst hki;rw [hPi,hP j (by omega)] at e;have:=hq t ht;have:=hpl j (by omega) s hs;omega
     ·rw [hP j (by omega),hP k (by omega)] at e;exact hj j k s t (by omega) (by omega) hs ht e)
   refine⟨H',g',P'',?_,r2⟩;rw [WU];have s1:=ld5 Hi M.same;have s2:=ld6 Ha Na.same;have s3:=ld5 Hb Nb.same;have ep:∀r r',bd 115 [(0,.ref r 0 0),(1,.ref r' 0 0)]=some (.agg [.ref r 0 0,.ref r' 0 0]):=λr r'=> by
    simp -implicitDefEqProofs only [xq_,ab9,gJ,dL,ab8];rfl
   have eq:∀r r' r2 r3,bd 121 [(0,.agg [.ref r 0 0,.ref r' 0 0]),(1,.agg [.ref r2 0 0,.ref r3 0 0])]=some (.agg [.ref r 0 0,.ref r' 0 0,.ref r2 0 0,.ref r3 0 0]):=λr r' r2 r3=> by
    simp -implicitDefEqProofs only [xq_,aho,gJ,dL,ace];rfl
   have eb:=jw (e:=121) (m:=4) (z:=[zP,zP,zP,zP]) (v:=.agg [.ref q1 0 0,.ref q2 0 0,.ref q3 0 0,.ref q4 0 0]) (H:=Hd) rfl rfl rfl;simp only [dD] at eb;simp only [o,a,lF,four,f] at t1 t2 r1 hx;simp -implicitDefEqProofs only [Nat.reduceLeDiff,xq_,hq_,h1,f,hx,s1,s2,s3,a1,a2,a3,a4,ep,eq,aha,zbd,eb,t1,t2,aW,h6,h7,r1]
 obtain⟨H',g',P,r1,r2,r3,r4,r5⟩:=key c.nodes.toNat 0 (by omega) H2 _ _ M0 upd_same (λj hj=> by omega) (λi j s t hi=> by omega);refine⟨H',f,P,g',aN rfl rfl (amU _ _ _ (r:=(_,H')) ?_),r2.vP,⟨?_,?_,rfl,rfl⟩,r5⟩
 ·have e0:bd 124 []=some (.agg [zN]):=by
   simp -implicitDefEqProofs only [xq_,ahq,gJ,dL]
  have a0:([zN]:List AV).all AV.aG=true:=rfl;simp -implicitDefEqProofs only [Nat.reduceLT,xq_,hq_,ail,aA (dG c),e0,aA a0,l0];exact r1
 ·rw [r3];simp only [Fab.new,zb2]
 ·intro i p hp;simp only [Fab.new] at hp;rw [zbl] at hp;split at hp
  ·cases hp;exact r4 i (by omega)
  ·cases hp
structure Adr where
 jQ:Nat
 fab:Nat
 trace:Nat
 N:Nat->Nat->Nat
 P:Nat->Nat->Nat
def EM(A:Adr)(c:Cfg):List AV:=[.ref A.fab 0 0,.ref A.trace 0 0]++c.av
def lX(N:Nat->Nat->Nat)(n:Nat):List AV:=(List.range n).map λi=> .ref (N i 0) 0 0
def ug(A:Adr)(c:Cfg)(n:Nat):List Cell:=(EM A c).map .av++[.seq 1 (lX A.N n)]
def alV(N:Nat->Nat->Nat)(n:Nat):Prop:=∀i j s t,i < n->j < n->s < 6->t < 6->N i s=N j t->i=j/\s=t
structure iL(g:Store)(A:Adr)(m:dV):Prop where
 jQ:g A.jQ=some (ug A m.c m.nodes.length)
 trace:g A.trace=some (kH m.trace)
 fab:fD g A.fab A.P m.c m.fab
 node:∀(i:Nat) n,m.nodes[i]?=some n->qo g (A.N i) m.c i n
 RX:Pz A.P m.fab.l.length
 alW:alV A.N m.nodes.length
 tf:A.trace≠A.fab
theorem qo.some {g:Store}{a:Nat->Nat}{c:Cfg}{me:Int}{n:Node}(h:qo g a c me n){s:Nat}(hs:s < 6):∃l,g (a s)=some l:=by
 obtain⟨h0,h1,h2,h3,h4,h5⟩:=h
 match s,hs with
 | 0,_=> exact⟨_,h0⟩
 | 1,_=> exact⟨_,h1⟩
 | 2,_=> exact⟨_,h2⟩
 | 3,_=> exact⟨_,h3⟩
 | 4,_=> exact⟨_,h4⟩
 | 5,_=> exact⟨_,h5⟩
theorem qo.ext {g g':Store}{a:Nat->Nat}{c:Cfg}{me:Int}{n:Node}(h:qo g a c me n)(hg:∀s,s < 6->g' (a s)=g (a s)):qo g' a c me n:=by
 obtain⟨h0,h1,h2,h3,h4,h5⟩:=h;exact⟨by rw [hg 0 (by omega),h0],by rw [hg 1 (by omega),h1],by rw [hg 2 (by omega),h2],by rw [hg 3 (by omega),h3],by rw [hg 4 (by omega),h4],by rw [hg 5 (by omega),h5]⟩
theorem qo.inj {g:Store}{a:Nat->Nat}{c:Cfg}{me:Int}{n:Node}(h:qo g a c me n){s t:Nat}(hs:s < 6)(ht:t < 6)(e:a s=a t):s=t:=by
 obtain⟨h0,h1,h2,h3,h4,h5⟩:=h;have hh:(g (a s)).map List.length=(g (a t)).map List.length:=by rw [e]
 match s,hs,t,ht with
 | 0,_,0,_ | 1,_,1,_ | 2,_,2,_ | 3,_,3,_ | 4,_,4,_ | 5,_,5,_=> rfl
 | 0,_,1,_ | 0,_,2,_ | 0,_,3,_ | 0,_,4,_ | 0,_,5,_ | 1,_,0,_ | 1,_,2,_ | 1,_,3,_ | 1,_,4,_ | 1,_,5,_ | 2,_,0,_ | 2,_,1,_ | 2,_,3,_ | 2,_,4,_ | 2,_,5,_ | 3,_,0,_ | 3,_,1,_ | 3,_,2,_ | 3,_,4,_ | 3,_,5,_ | 4,_,0,_ | 4,_,1,_ | 4,_,2,_ | 4,_,3,_ | 4,_,5,_ | 5,_,0,_ | 5,_,1,_ | 5,_,2,_ | 5,_,3,_ | 5,_,4,_=>
  simp [h0,h1,h2,h3,h4,h5,uf,Jm,Cfg.av,bC.av,bf,nZ,Az,Aw,fP] at hh
theorem Ei {N N':Nat->Nat->Nat}{n:Nat}(h:∀i,i < n->N' i=N i):lX N' (n+1)=lX N n++[.ref (N' n 0) 0 0]:=by
 unfold lX;rw [zb4,zbg]
 congr 1
 refine zbz λi hi=> ?_;rw [h i (zaW.1 hi)]
theorem BU {c:Cfg}{ps:List (List Opn)}(h:c.pz ps=true):(ps.length:Int)=c.nodes/\∀l∈ps,l.length<=24:=by
 simp only [Cfg.pz,zaj,decide_eq_true_eq,zaV] at h;exact⟨h.2,λl hl=> (h.1 l hl).1⟩
theorem Gp(H:aj)(hb:H.base<=H.next)(c:Cfg)(h:c.ok=true){x:AV}{ps:List (List Opn)}(hx:RU H x ps)(hp:c.pz ps=true):∃H' A g',cl 25 [.agg c.av,x] H=some (.tup [.ref A.jQ 0 0,I 0],H')/\Made H H' g'/\iL g' A (.new c ps):=by
 have Bd:=pI h;obtain⟨hp1,hp2⟩:=BU hp;have hn:=Bd.nodes;let H1:=H.new (.blk 0 40 c.av);have lt1:H.next < H1.next:=by simp only [H1,nNew];omega
 have g1:H1.get H.next=.blk 0 40 c.av:=aJ rfl
 have b1:=iH g1;have e1:=RS H1 c h;have e2:=ad9 H1 c h (hx.gV (H':=H1) (by omega) λr hr=> aP hr) (by omega) λl hl=> by have:=hp2 l hl;omega
 rw [hp] at e2;have e3:=iW H1 c.init (by have:=Bd.init;have:=Bd.jm;omega);obtain⟨H2',f,P,gf,e4,M1,F1,J1⟩:=Ya H1.guard (zac _) c h;obtain⟨H2,e4,M1⟩:=drawn e4 M1;obtain⟨H3',t,e5,M2⟩:=aaM H2.guard;obtain⟨H3,e5,M2⟩:=drawn e5 M2;let A0:Adr:=⟨H3.next,f,t,λ_ _=> 0,P⟩
 have bx:∀H':aj,(∀r,r < H1.next->H'.get r=H1.get r)->H'.get H.next=.blk 0 40 c.av:=λH' hs=> by rw [hs _ lt1,g1]
 have M12:=M1.add M2;have b3:=iH (bx H3 M12.same);have b2:=iH (bx H2 M1.same);let xs:=EM A0 c++[zN]
 have hall:xs.all AV.aG=true:=by simp only [xs,EM,za7,dG];rfl
 have M3:Made H3 (H3.new (.blk 0 47 xs)) (upd nil0 H3.next (ug A0 c 0)):=by
  refine jH hall (by simp [xs,ug]) λi cc y hc hy=> ?_;simp only [ug] at hc;by_cases hi:i < (EM A0 c).length
  ·left;rw [zaJ (by rw [zaF];exact hi),zaE] at hc;rw [zaJ hi] at hy;rw [hy] at hc;exact(za2 hc).symm
  ·right;have hlen:(EM A0 c).length=10:=rfl;have:i=10:=by
    have:=(zaf.1 hy).1;simp only [xs,zan,zal,zau] at this;omega
   subst this;cases hc;cases hy;exact⟨rfl,1,rfl⟩
 have M0:=M12.add M3;let g0:=upd (upd gf t (kH [])) H3.next (ug A0 c 0)
 let K:=H3.next
 have key:∀k i,i+k=ps.length->∀Hi gi N,Made H1 Hi gi->gi K=some (ug { A0 with N:=N } c i)->(∀q,q < K->gi q=g0 q)->(∀(j:Nat) l,j < i->ps[j]?=some l->qo gi (N j) c j (.new c j l))->alV N i->
   ∃H' g' N',IQ cl [.ref H.next 0 0,.ref K 0 0,x,I ps.length,I i] Hi=some (.tup [.ref K 0 0,I 0],H')/\Made H1 H' g'/\g' K=some (ug { A0 with N:=N' } c ps.length)/\(∀q,q < K->g' q=g0 q)/\(∀(j:Nat) l,j < ps.length->ps[j]?=some l->qo g' (N' j) c j (.new c j l))/\alV N' ps.length:=by
  intro k
  induction k with
  | zero=>
   intro i hi Hi gi N M hm hl hnd hj;have h1:¬(i:Int) < ps.length:=by omega
   have hi':ps.length=i:=by omega
   rw [WT];refine⟨Hi,gi,N,?_,M,by rw [hi'];exact hm,hl,by rw [hi'];exact hnd,by rw [hi'];exact hj⟩;simp -implicitDefEqProofs only [xq_,h1]
  | succ k ih=>
   intro i hi Hi gi N M hm hlow hnd hj;have h1:(i:Int) < ps.length:=by omega
   have h6:(i:Int)+1=((i+1:Nat):Int):=by omega
   have h7:=wrap_i64 (a:=((i+1:Nat):Int)) (by omega) (by omega);have hxi:=hx.gV (H':=Hi) (zay (Nat.le_of_lt lt1) M.next) λr hr=> by rw [M.same r (by omega)];exact aP hr
   obtain⟨cells,x1,x2⟩:=hxi;have hcl:cells.length=ps.length:=by have:=x1.1;omega
   have s1:=x1.ix (k:=.i64) (i:=(i:Int)) (by omega) h1;rw [zar] at s1;have s2:=x1.ld (i:=i) (by omega);obtain⟨v,hv⟩:∃v,cells[i]?=some v:=⟨_,zab (by omega)⟩
   obtain⟨l,hl⟩:∃l,ps[i]?=some l:=⟨_,zab (by omega)⟩
   rw [hv] at s2;obtain⟨v1,v2⟩:=x2 i v l hv hl;have s4:=iH (bx Hi M.same);obtain⟨y,hy,cy⟩:=M.good.seq hm (i:=10) (m:=1) (l:=lX N i) rfl;obtain⟨Ha',a,ga,a1,Ma,Ia⟩:=afI Hi.guard c h i l (by have:=hp2 l (zaq hl);omega) v1.guard v2;obtain⟨Ha,a1,Ma⟩:=drawn a1 Ma;have Na:=M.trans Ma;let ga':=cup Hi.next gi ga
   have hK:=M.good.lt hm;have aea:∀q,q < Hi.next->ga' q=gi q:=λq hq=> by simp only [ga',cup,hq,if_true]
   have hma:ga' K=some (ug { A0 with N:=N } c i):=by rw [aea K hK,hm]
   let o:dQ:=.blk 0 54 [.ref (a 0) 0 0];have hnl:(lX N i).length=i*1:=by simp [lX]
   obtain⟨y',He,Hf,t1,t2,t3,t4⟩:=(Na.good.new o).append (e:=54) (by_:=8) (by rw [bNew,Na.base];simp only [H1,bNew,nNew];omega) hma (i:=10) rfl (by decide) hnl ((cy.ext Ma.next Ma.same).new o) (jy (ex:=true) (n:=1) (m:=1) (l:=[.ref (a 0) 0 0]) rfl) rfl (by unfold most;omega) (by unfold most;omega);let N':Nat->Nat->Nat:=λj=> if j=i then a else N j
   have hN:∀j,j < i->N' j=N j:=λj hj=> by simp only [N'];rw [if_neg (by omega)]
   have hNi:N' i=a:=by simp only [N',if_true]
   have Mf:Made H1 Hf (upd ga' K (ug { A0 with N:=N' } c (i+1))):=by
    refine((Na.new o).step t3 t4).as ?_
    congr 1
    simp only [ug];rw [Ei hN,hNi];rfl
   have hal:∀s,s < 6->Hi.next<=a s/\ga' (a s)=ga (a s):=λs hs=> by
    obtain⟨l,hg⟩:=Ia.some hs;have:=(Ma.lt hg).1;exact⟨this,by simp only [ga',cup];rw [if_neg (by omega)]⟩
   have hNl:∀j,j < i->∀s,s < 6->N j s < Hi.next:=λj hji s hs=> by
    obtain⟨lj,hlj⟩:∃l,ps[j]?=some l:=⟨_,zab (by omega)⟩
    obtain⟨l,hg⟩:=(hnd j lj hji hlj).some hs;exact M.good.lt hg
   obtain⟨H',g',N'',r1,r2⟩:=ih (i+1) (by omega) Hf _ N' Mf upd_same (λq hq=> by
    rw [upd_ne (by omega),aea q (by omega),hlow q hq]) (λj lj hj1 hlj=> by
    by_cases hji:j=i
    ·subst hji;rw [hl] at hlj;cases hlj;rw [hNi];exact Ia.ext λs hs=> by
      obtain⟨h1,h2⟩:=hal s hs;rw [upd_ne (by omega),h2]
    ·rw [hN j (by omega)];refine(hnd j lj (by omega) hlj).ext λs hs=> ?_;have hlt:=hNl j (by omega) s hs;have hne:N j s≠K:=λe=> by
      have I:=hnd j lj (by omega) hlj;obtain⟨l',hg⟩:=I.some hs;obtain⟨h0,h1,h2,h3,h4,h5⟩:=I;have hh:(gi (N j s)).map (λl=> l[10]?)=some (some (.seq 1 (lX N i))):=by rw [e,hm];rfl
      match s,hs with
      | 0,_=> rw [h0] at hh;simp [uf,Jm,Cfg.av,bC.av] at hh
      | 1,_=> rw [h1] at hh;simp [bf] at hh
      | 2,_=> rw [h2] at hh;simp [nZ] at hh
      | 3,_=> rw [h3] at hh;simp [Az,Cfg.av] at hh
      | 4,_=> rw [h4] at hh;simp [Aw,Cfg.av] at hh
      | 5,_=> rw [h5] at hh;simp [fP] at hh
     rw [upd_ne hne,aea _ hlt]) (λj k s t hj1 hk1 hs ht e=> by
    by_cases hji:j=i
    ·by_cases hki:k=i
     ·subst hji;subst hki;rw [hNi] at e;exact⟨rfl,Ia.inj hs ht e⟩
     ·subst hji;rw [hNi,hN k (by omega)] at e;have:=(hal s hs).1;have:=hNl k (by omega) t ht;omega
    ·by_cases hki:k=i
     ·subst hki;rw [hNi,hN j (by omega)] at e;have:=(hal t ht).1;have:=hNl j (by omega) s hs;omega
     ·rw [hN j (by omega),hN k (by omega)] at e;exact hj j k s t (by omega) (by omega) hs ht e)
   refine⟨H',g',N'',?_,r2⟩;rw [WT];have eb:=jw (e:=54) (m:=1) (z:=[zP]) (v:=.ref (a 0) 0 0) (H:=Ha) rfl rfl rfl;have ec:(AV.ref (a 0) 0 0).cells=[.ref (a 0) 0 0]:=rfl;rw [ec] at eb;simp only [o] at t1 t2;simp -implicitDefEqProofs only [Nat.reduceLeDiff,xq_,hq_,h1,s1,s2,s4,hy,a1,amg,zbd,eb,t1,t2,aW,h6,h7,r1]
 have hfl:f < H2.next:=M1.good.lt F1.1
 have ht:=M2.lt upd_same;obtain⟨H',g',N,r1,r2,r3,r4,r5,r6⟩:=key ps.length 0 (by omega) _ g0 (λ_ _=> 0) M0 upd_same (λq hq=> rfl) (λj l hj=> by omega) (λi j s t hi=> by omega);have hg0:∀q,q < H2.next->g0 q=gf q:=λq hq=> by simp only [g0];rw [upd_ne (by omega),upd_ne (by omega)]
 refine⟨H',{ A0 with N:=N },g',aN rfl rfl (aij _ _ _ _ (r:=(_,H')) ?_),r2.vP,?_⟩
 ·have l7:c.av[7]?=some (dat c.init):=rfl;have b0:mY Tryz.prog .neq 76 (I 0) (I 0)=some (B false):=by kernel_rfl
  have st7:st 1 (.ref H.next 0 7) (dat c.init) H1=some (aK,H1):=by
   simp only [H1];rw [KX rfl];simp -implicitDefEqProofs only [Nat.reduceAdd,setAt,xq_,hq_,Cfg.av,hb]
  have em:bd 47 [(0,.ref f 0 0),(1,.ref t 0 0),(2,.agg c.av)]=some (.agg xs):=by
   simp -implicitDefEqProofs only [xq_,amh,gJ,dL,ahe,Cfg.av,dD];rfl
  have el:=(hx.gV (H':=H3.new (.blk 0 47 xs)) (by have:=M12.next;simp only [nNew];omega) λr hr=> by rw [M0.same r (by omega)];exact aP hr)
  obtain⟨cells,x1,_⟩:=el;have el:=x1.lnS;simp only [H1] at b1 e1 e2 e3 e4 e5 st7;simp -implicitDefEqProofs only [Nat.reduceLT,xq_,hq_,aav,aA (dG c),b1,e1,b0,e2,e3,l7,st7,e4,e5,b3,em,aA hall,el];exact r1
 ·refine⟨?_,?_,⟨?_,?_,rfl,rfl⟩,?_,?_,?_,?_⟩
  ·rw [r3];simp only [dV.new,zck]
  ·rw [r4 t ht.2];simp only [g0];rw [upd_ne (by omega),upd_same];rfl
  ·show g' f=_;rw [r4 f (by have:=M2.next;omega),hg0 f hfl,F1.1];rfl
  ·intro i p hp;have I:=F1.2.1 i p hp;exact I.ext λs hs=> by
    obtain⟨l,r,hg⟩:=I.some hs;have:=M1.good.lt hg;rw [r4 _ (by have:=M2.next;omega),hg0 _ this]
  ·intro i n hi;simp only [dV.new,za5,zbi] at hi;obtain⟨l,hl,rfl⟩:=hi;exact r5 i l (zaf.1 hl).1 hl
  ·simp only [dV.new,Fab.new,zb2];exact J1
  ·simp only [dV.new,zck];exact r6
  ·show t≠f;omega
section
variable {b:Nat}{H:aj}{g:Store}{q:Nat}
theorem BX(G:Good b H g){p:Proc}(h:g q=some (nZ p))(h1:p.ops.length < 1000)(h2:p.values.length < 1000):cl 19 [.ref q 0 0] H=some (I p.left,H):=by
 refine aN rfl rfl (amP _ _ _ ?_);have e1:=G.load h (i:=0) rfl;have e2:=(Du dh H p.ops).lnS;obtain⟨x,hx,c⟩:=G.seq h (i:=1) rfl;have e3:=(c.is (n:=p.values.length) (by decide) (by simp)).lnS;simp -implicitDefEqProofs only [xq_,aib,e1,e2,hx,e3,jq,Proc.left];rw [wrap_i64 (by omega) (by omega)]
theorem MB(G:Good b H g){p:Proc}(h:g q=some (nZ p)):cl 45 [.ref q 0 0] H=some (B p.begun,H):=by
 refine aN rfl rfl (am5 _ _ _ ?_);have e1:=G.load h (i:=2) rfl;simp -implicitDefEqProofs only [xq_,aiu,e1]
theorem Yb(G:Good b H g){l:List Pkt}{room:Int}(h:g q=some (kT l room)):cl 48 [.ref q 0 0] H=some (I l.length,H):=by
 refine aN rfl rfl (am7 _ _ _ ?_);obtain⟨x,hx,c⟩:=G.seq h (i:=0) rfl;have e2:=(c.is (by decide) (bn aU l)).lnS;simp -implicitDefEqProofs only [xq_,aix,hx,e2]
theorem RY(G:Good b H g){l:List Pkt}{room:Int}(h:g q=some (kT l room)):cl 51 [.ref q 0 0] H=some (I l.length,H):=by
 refine aN rfl rfl (am9 _ _ _ ?_);obtain⟨x,hx,c⟩:=G.seq h (i:=0) rfl;have e2:=(c.is (by decide) (bn aU l)).lnS;simp -implicitDefEqProofs only [xq_,aiy,hx,e2]
theorem Yc {H:aj}(l:List Int)(h:l.length < 1000000000):app 3 1 8 zN (dat l) H=some (if l=[] then(zN,H) else(.sl H.next 0 0 1 l.length l.length false,H.new (.blk 0 (3+fA) (l.map I)))):=by
 by_cases h0:l=[]
 ·subst h0;simp only [dat,dP,if_true];rfl
 ·rw [if_neg h0];exact Iu (jh _ l) (uP l) (λe=> h0 (zao e)) (by unfold most;omega) (by unfold most;omega)
theorem Gq {H:aj}{s d r:Nat}{l:List Int}(hl:l≠[])(hr:s<=r){ty:TypeId}(hg:H.get r=.blk 0 ty (l.map I)){ex:Bool}:aT H s (d+2) (.sl r 0 0 1 l.length l.length ex)=some (dat l):=by
 rw [tY hl];refine jv hr (cells:=l.map I) ?_ (fH _ λx hx=> uQ _ x hx _ _);simp only [aY,hg];rw [if_pos ⟨trivial,by simp⟩,zaR,zas (by simp)]
theorem RZ(G:Good b H g){a:Nat->Nat}{c:Cfg}{me:Int}{d:bC}{num:Int}(h:g q=some (uf a c me d num))(hd:d.data.length < 1000000000):
  cl 18 [.ref q 0 0] H=some (.tup [.agg (if d.step=0 then bC.zero else d).av,B (!decide (d.step=0))],H):=by
 have zd:bC.zero.av=[zI,zI,zI,zI,zI,zI,zN,zI,zI]:=by simp [bC.zero,bC.av,dat,dP]
 have G1:=G.guard.new (.blk 0 57 [zI,zI,zI,zI,zI,zI,zN,zI,zI]);have e1:=G1.load h (i:=15) (x:=I d.step) rfl;have ez:bd 57 []=some (.agg [zI,zI,zI,zI,zI,zI,zN,zI,zI]):=by simp -implicitDefEqProofs only [xq_,TQ,gJ,dL]
 by_cases h0:d.step=0
 ·refine aX rfl rfl (afb _ _ _) ?_ ?_
  ·simp -implicitDefEqProofs only [Nat.reduceAdd,setAt,xq_,hq_,WR,e1,h0,ez,zd,zae]
  ·rw [if_pos h0,zd];refine qX λx hx=> ?_;simp only [zam,zaI,or_false] at hx;rcases hx with rfl | rfl
   ·refine kC λx hx=> ?_;simp only [zam,zaI,or_false] at hx;rcases hx with rfl | rfl | rfl | rfl | rfl | rfl | rfl | rfl | rfl <;> exact eu
   ·exact eu
 ·have e2:=G1.loads h (i:=12) (n:=9) (xs:=d.av) rfl rfl (by decide);by_cases hl:d.data=[]
  ·refine aX rfl rfl (afb _ _ _) (v:=.tup [.agg d.av,B true]) ?_ ?_ |>.trans ?_
   ·have e3:=λH=> Yc (H:=H) d.data hd;have hz:dat ([]:List Int)=zN:=by simp [dat,dP]
    simp only [hl,if_true,hz] at e3;have zc:zN.cells=[zN]:=rfl;simp -implicitDefEqProofs only [Nat.reduceAdd,setAt,xq_,hq_,WR,e1,h0,e2,bC.av,hl,e3,hz,zc]
   ·refine qX λx hx=> ?_;simp only [zam,zaI,or_false] at hx;rcases hx with rfl | rfl
    ·refine kC λx hx=> ?_;simp only [bC.av,zam,zaI,or_false] at hx;rcases hx with rfl | rfl | rfl | rfl | rfl | rfl | rfl | rfl | rfl <;> first | exact eu | exact qY
    ·exact eu
   ·simp only [h0,if_false,decide_false,zak]
  ·let Hr:=H.next+2
   have e3:=λH=> Yc (H:=H) d.data hd;simp only [hl,if_false] at e3;have key:∃Hz,WR cl (.ref q 0 0) H.guard=some (.tup [.agg [I d.kind,I d.line,I d.id,I d.step,I d.state,I d.head,.sl (H.next+2) 0 0 1 d.data.length d.data.length false,I d.next,I d.told],B true],Hz)/\Hz.get (H.next+2)=.blk 0 (3+fA) (d.data.map I):=by
    have cs:∀r n m,(AV.sl r 0 0 1 n m false).cells=[.sl r 0 0 1 n m false]:=λ_ _ _=> rfl;have ic:∀r n m,AV.aG (.sl r 0 0 1 n m false)=true:=λ_ _ _=> rfl;simp -implicitDefEqProofs only [Nat.reduceAdd,setAt,xq_,hq_,zaa,zad,exists_eq_left',WR,e1,h0,e2,bC.av,e3,cs,ic];exact aJ (by first | rfl | simp only [nNew,yO])
   obtain⟨Hz,k1,k2⟩:=key;refine fO rfl rfl (afb _ _ _ k1) ?_;have f:=Gq (s:=H.next) (d:=5) (ex:=false) hl (by omega) k2;have f':∀v,aT Hz H.next 7 (.s v)=some (.s v):=λv=> gW
   have f'':∀v,aT Hz H.next 8 (.s v)=some (.s v):=λv=> gW
   rw [aT,zbp,aT];simp only [zbp,List.mapM_nil,f,f',f'',h0,if_false,decide_false,zak,bC.av];rfl
end
section
variable {b:Nat}{H:aj}{g:Store}{q f:Nat}{P:Nat->Nat->Nat}{c:Cfg}{fab:Fab}
theorem Cur.elemAt {i m n:Nat}{x:AV}{l:List AV}(cu:Cur b H q i x m l)(hm:0 < m)(hl:l.length=n*m){j:Nat}(hj:j < n):
  ∃r gg o,(∀k:IntKind,ix m x (.s (.int k j)) H=some (.ref r gg o,H))/\(∀k,k < m->ld (.ref r gg (o+k)) H=(l[j*m+k]?).map λv=> (v,H))/\lda m (.ref r gg o) H=some (.agg ((l.drop (j*m)).take m),H):=by
 have hs:=cu.is hm hl;have hjm:(j+1)*m<=n*m:=zaC _ (by omega);rw [zbs,zbd] at hjm;rcases cu.length hm hl with⟨_,h0⟩ | ⟨r,gg,off,cap,ex,ty,all,rfl,k1,k2,k3,k4,k5,k6,k7,k8⟩
 ·omega
 have hcm:n*m<=cap*m:=zaC _ k4;refine⟨r,gg,off+j*m,λk=> ?_,λk hk=> ?_,?_⟩
 ·have:=hs.ix (k:=k) (i:=(j:Int)) (by omega) (by omega);rw [zar] at this;exact this
 ·rw [dJ k5,k8,zaB,if_pos (by omega),zaD,zb9]
 ·rw [fJ k5 (by omega),k8]
  congr 3
  rw [zcg,zbE,zbV,zbf (by omega)]
theorem Ej {α:Type}{enc:α->List AV}{m:Nat}(he:∀a,(enc a).length=m)(l:List α)(i:Nat)(a:α)(hi:l[i]?=some a){k:Nat}(hk:k < m):(l.flatMap enc)[i*m+k]?=(enc a)[k]?:=by
 have:=flat_get he l i a hi;rw [<-this,zaB,if_pos hk,zaD]
theorem yg(G:Good b H g)(F:fD g f P c fab)(hn:fab.l.length < 1000)(i:Int):cl 50 [.ref f 0 0,I i] H=some (B (fab.is i),H):=by
 refine aN rfl rfl (am8 _ _ _ _ ?_);obtain⟨x,hx,cu⟩:=G.seq F.1 (i:=0) rfl;have e2:=(cu.is (by decide) (lQ P _)).lnS;by_cases h0:0<=i
 ·simp -implicitDefEqProofs only [xq_,afh,h0,hx,e2,Fab.is,zaK]
 ·simp -implicitDefEqProofs only [xq_,afh,h0,Fab.is,zaN]
theorem fD.port(F:fD g f P c fab){i:Nat}(hi:i < fab.l.length):rY g (P i) c (fab.port i):=by
 have:=F.2.1 i (fab.l[i]) (zab hi);unfold Fab.port;rw [zar,zaw,zab hi];exact this
theorem Gs(G:Good b H g)(F:fD g f P c fab)(hn:fab.l.length < 1000)(i:Int):
  cl 16 [.ref f 0 0,I i] H=some (.tup [I (fab.waiting i true),I (fab.waiting i false)],H):=by
 refine aN rfl rfl (amM _ _ _ _ ?_);have e1:=yg G F hn i;cases hi:fab.is i with
 | false=>
  rw [hi] at e1;simp -implicitDefEqProofs only [xq_,afa,e1,zak,Fab.waiting,hi];rfl
 | true=>
  rw [hi] at e1;simp only [Fab.is,zaj,decide_eq_true_eq] at hi;obtain⟨n,rfl⟩:∃n:Nat,i=n:=⟨i.toNat,by omega⟩
  have hl:n < fab.l.length:=by omega
  obtain⟨x,hx,cu⟩:=G.seq F.1 (i:=0) rfl;obtain⟨r,gg,o,a1,a2,_⟩:=cu.elemAt (by decide) (lQ P _) hl;have hr:(List.range fab.l.length)[n]?=some n:=zbk hl;have l1:=a2 1 (by decide);rw [Ej (m:=4) (λ_=> rfl) _ n n hr (by decide)] at l1;have l3:=a2 3 (by decide);rw [Ej (m:=4) (λ_=> rfl) _ n n hr (by decide)] at l3;have hp:=F.port hl;have q1:=RY G.guard hp.2.1;have q3:=RY G hp.2.2.2;have l1':ld (.ref r gg (o+1)) H=some (.ref (P n 1) 0 0,H):=l1;have l3':ld (.ref r gg (o+2+1)) H=some (.ref (P n 3) 0 0,H):=l3;have a1':=a1 .i64;have w:∀req,fab.waiting n req=((fab.port n).qZ req).length:=λreq=> by
   unfold Fab.waiting;rw [if_pos (by simp only [Fab.is,zaj,decide_eq_true_eq];omega)]
  simp -implicitDefEqProofs only [xq_,afa,e1,zae,hx,a1',l1',l3',q1,q3,w,Port.qZ]
end
section
variable {b:Nat}{H:aj}{g:Store}{q f:Nat}{P:Nat->Nat->Nat}{c:Cfg}{fab:Fab}
theorem afJ {e:TypeId}{H:aj}{a b c d:Nat}:bsl e 2 [zP,zP] 2 [(0,.agg [.ref a 0 0,.ref b 0 0]),(1,.agg [.ref c 0 0,.ref d 0 0])] H=some (.sl H.next 0 0 2 2 2 true,H.new (.blk 0 e [.ref a 0 0,.ref b 0 0,.ref c 0 0,.ref d 0 0])):=rfl
def fQ(P:Nat->Nat->Nat)(n:Nat):List AV:=(List.range n).flatMap λi=> lF (P i)
theorem fD.lt(G:Good b H g)(F:fD g f P c fab){i s:Nat}(hi:i < fab.l.length)(hs:s < 4):P i s < H.next:=by
 obtain⟨l,r,h⟩:=(F.port hi).some hs;exact G.lt h
theorem Si(G:Good b H g)(F:fD g f P c fab)(hn:fab.l.length < 1000)(h0:fab.l.length≠0):
  cl 47 [.ref f 0 0] H=some (.vs (2*fab.l.length) 2 (fQ P fab.l.length),H):=by
 obtain⟨x,hx,cu⟩:=G.guard.seq F.1 (i:=0) rfl;have e2:=(cu.is (by decide) (lQ P _)).lnS;have hfr:∀d,∀y∈fQ P fab.l.length,∀Hz,aT Hz H.next (d+1) y=some y:=λd y hy Hz=> by
  obtain⟨i,hi,hy⟩:=za6.1 hy;have hi:=zaW.1 hi;simp only [lF,zam,zaI,or_false] at hy;rcases hy with rfl | rfl | rfl | rfl <;> · rw [aT];exact if_pos (F.lt G hi (by omega))
 have key:∀k i,i+k=fab.l.length->∀Hi t,Own H.next Hi t 2 (fQ P i)->Step H.next H.guard Hi->
   ∃v Hz,IX cl [t,x,I fab.l.length,I i] Hi=some (v,Hz)/\Own H.next Hz v 2 (fQ P fab.l.length):=by
  intro k
  induction k with
  | zero=>
   intro i hi Hi t o s;have h1:¬(i:Int) < fab.l.length:=by omega
   rw [WZ];refine⟨t,Hi,?_,by rw [show fab.l.length=i by omega];exact o⟩;simp -implicitDefEqProofs only [xq_,h1]
  | succ k ih=>
   intro i hi Hi t o s;have h1:(i:Int) < fab.l.length:=by omega
   have h6:(i:Int)+1=((i+1:Nat):Int):=by omega
   have h7:=wrap_i64 (a:=((i+1:Nat):Int)) (by omega) (by omega);obtain⟨r,gg,off,a1,_,a3⟩:=(cu.ext s.next s.low).elemAt (by decide) (lQ P _) (j:=i) (by omega);have a1:=a1 .i64;rw [flat_get (m:=4) (λ_=> rfl) _ i i (zbk (by omega))] at a3;let H1:=Hi.new (.blk 0 121 (lF (P i)));have hpl:(fQ P i).length=(2*i)*2:=by
    rw [fQ,lQ];omega
   have sb:Hi.base=H.next:=s.base
   have sn:H.next<=Hi.next:=s.next
   obtain⟨v',Hj,t1,t2,t3⟩:=((o.new (.blk 0 121 (lF (P i)))).new (.blk 0 115 (lF (P i)))).step (e:=115) (by_:=16) (by simp only [nNew];omega) (by simp only [bNew];omega) (by decide) hpl (jy (ex:=true) (n:=2) (m:=2) (l:=lF (P i)) rfl) rfl (by unfold most;omega) (by unfold most;omega);have hs:fQ P (i+1)=fQ P i++lF (P i):=by
    simp only [fQ];rw [zb4,zbA,zaH,List.flatMap_nil,zbh]
   rw [<-hs] at t2;obtain⟨v,Hz,r1,r2⟩:=ih (i+1) (by omega) Hj v' t2 ((s.trans ((Step.new _ (by omega)).trans (Step.new _ (by simp only [nNew];omega)))).trans t3);refine⟨v,Hz,?_,r2⟩;rw [WZ];have ca:∀a b c d,(AV.agg [.ref a 0 0,.ref b 0 0,.ref c 0 0,.ref d 0 0]).cells=[.ref a 0 0,.ref b 0 0,.ref c 0 0,.ref d 0 0]:=λ_ _ _ _=> rfl;have hbase:Hi.base<=Hi.next:=by omega
   simp only [lF,nNew] at a3 t1;simp -implicitDefEqProofs only [Nat.reduceAdd,Nat.reduceLeDiff,setAt,xq_,hq_,h1,a1,a3,hbase,ag9,Nat.reduceMul,afJ,t1,aW,h6,h7,r1]
 obtain⟨v,Hz,r1,r2⟩:=key fab.l.length 0 (by omega) H.guard zN (.inl ⟨rfl,rfl⟩) (Step.refl _ _);refine fO rfl rfl (am6 _ _ _ (r:=(v,Hz)) ?_) ?_
 ·simp -implicitDefEqProofs only [xq_,aiw,hx,e2];exact r1
 ·have hpl:(fQ P fab.l.length).length=(2*fab.l.length)*2:=by
   rw [fQ,lQ];omega
  have hs:=r2.is (by decide) hpl;obtain⟨c1,c2⟩:=hs.sV;rcases r2 with⟨rfl,e⟩ | ⟨r,gg,off,n',cap,ex,ty,all,rfl,k2,k3,k4,k5,k6,k7,k8⟩
  ·rw [e] at hpl;simp only [zau] at hpl;omega
  ·have hn':n'=2*fab.l.length:=by
    have:=hs.2.2.1;exact this
   subst hn';exact jv k2 c2 (fH _ λy hy=> hfr _ y hy _)
theorem Yd {α β:Type}{u v:α->β}:∀(l:List α) (i:Nat),(l.flatMap λp=> [u p,v p])[2*i]?=l[i]?.map u/\(l.flatMap λp=> [u p,v p])[2*i+1]?=l[i]?.map v
 | [],i=> by simp
 | a::l,0=> by simp
 | a::l,i+1=> by
  have:=Yd (u:=u) (v:=v) l i;rw [show 2*(i+1)=2*i+1+1 by omega]
  simpa using this
theorem fD.aeb(F:fD g f P c fab){j:Nat}(hj:j < 2*fab.l.length):
  ∃l a a',fab.gZ[j]?=some l/\((fQ P fab.l.length).drop (j*2)).take 2=[.ref a 0 0,.ref a' 0 0]/\g a=some (kT l c.out):=by
 have hi:j / 2 < fab.l.length:=by omega
 have hp:=F.port hi;have hg:fab.l[j / 2]?=some (fab.port (j / 2:Nat)):=by
  unfold Fab.port;rw [zar,zaw,zab hi];rfl
 have hfl:=flat_get (m:=4) (enc:=λi=> lF (P i)) (λ_=> rfl) (List.range fab.l.length) (j / 2) (j / 2) (zbk hi);have h2:=Yd (u:=Port.rq) (v:=Port.an) fab.l (j / 2);rw [hg] at h2;rcases Nat.mod_two_eq_zero_or_one j with h | h
 ·refine⟨_,P (j / 2) 0,P (j / 2) 1,?_,?_,hp.1⟩
  ·have:=h2.1;rw [show 2*(j / 2)=j by omega] at this;exact this
  ·have e:((fQ P fab.l.length).drop (j*2)).take 2=(((fQ P fab.l.length).drop (j / 2*4)).take 4).take 2:=by
    rw [zbV,show j / 2*4=j*2 by omega];rfl
   rw [e];exact(congrArg (List.take 2) hfl).trans rfl
 ·refine⟨_,P (j / 2) 2,P (j / 2) 3,?_,?_,hp.2.2.1⟩
  ·have:=h2.2;rw [show 2*(j / 2)+1=j by omega] at this;exact this
  ·have e:((fQ P fab.l.length).drop (j*2)).take 2=((((fQ P fab.l.length).drop (j / 2*4)).take 4).drop 2).take 2:=by
    rw [zcg,zbE,zbV,show j / 2*4+2=j*2 by omega];rfl
   rw [e];exact(congrArg (λl=> (List.drop 2 l).take 2) hfl).trans rfl
end
section
variable {b:Nat}{H:aj}{g:Store}{q f:Nat}{P:Nat->Nat->Nat}{c:Cfg}{fab:Fab}
theorem aaU {ls:List (List Pkt)}{j:Nat}{l:List Pkt}(h:ls[j]?=some l):((ls.take (j+1)).map List.length).sum=((ls.take j).map List.length).sum+l.length:=by
 rw [List.take_succ,h];simp
theorem MC:∀l:List Port,((l.flatMap λp=> [p.rq,p.an]).map List.length).sum=(l.flatMap λp=> p.rq++p.an).length
 | []=> rfl
 | p::l=> by
  have:=MC l;simp only [zaH,zbg,List.sum_append,zan,this];simp
theorem nO:∀l:List Port,(l.flatMap λp=> [p.rq,p.an]).length=2*l.length
 | []=> rfl
 | p::l=> by
  have:=nO l;simp only [zaH,zan,this,zal,zau];omega
theorem akW {ls:List (List Pkt)}{m:Nat}(h:∀l∈ls,l.length<=m):(ls.map List.length).sum<=ls.length*m:=by
 induction ls with
 | nil=> simp
 | cons l ls ih=>
  have h1:=h l (by simp);have:=ih λl' hl'=> h l' (by simp [hl']);simp only [zaA,zbv,zal,zbs,zbd];omega
theorem Sj(G:Good b H g)(F:fD g f P c fab)(hn:fab.l.length < 1000)(h0:fab.l.length≠0)(hr:∀l∈fab.gZ,l.length < 1000):
  cl 14 [.ref f 0 0] H=some (I fab.under,H):=by
 have e1:=Si G.guard F hn h0;have hpl:(fQ P fab.l.length).length=(2*fab.l.length)*2:=by
  rw [fQ,lQ];omega
 have hsl:∀H,aF H (.vs (2*fab.l.length) 2 (fQ P fab.l.length)) 2 (2*fab.l.length) (fQ P fab.l.length):=λH=> aF.vs hpl;have e2:=(hsl H.guard).lnS;have hcnt:fab.gZ.length=2*fab.l.length:=nO fab.l;have key:∀k j,j+k=2*fab.l.length->∀Hi,Step H.next H.guard Hi->
   ∃Hz,IJ cl [I ((fab.gZ.take j).map List.length).sum,.vs (2*fab.l.length) 2 (fQ P fab.l.length),I (2*fab.l.length:Nat),I j] Hi=some (I fab.under,Hz):=by
  intro k
  induction k with
  | zero=>
   intro j hj Hi s;have h1:¬(j:Int) < (2*fab.l.length:Nat):=by omega
   rw [WQ];refine⟨Hi,?_⟩;have h2:((fab.gZ.take j).map List.length).sum=fab.under:=by
    rw [zas (by omega)];exact MC fab.l
   simp -implicitDefEqProofs only [xq_,h1,h2]
  | succ k ih=>
   intro j hj Hi s;have h1:(j:Int) < (2*fab.l.length:Nat):=by omega
   have h6:(j:Int)+1=((j+1:Nat):Int):=by omega
   have h7:=wrap_i64 (a:=((j+1:Nat):Int)) (by omega) (by omega);have a1:=(hsl Hi).ix (k:=.i64) (i:=(j:Int)) (by omega) h1;rw [zar] at a1;have a3:=(hsl Hi).lda (i:=j) (by omega);obtain⟨l,a,a',p1,p2,p3⟩:=F.aeb (j:=j) (by omega);rw [p2] at a3;have hsn:=aaU p1;have hln:((fab.gZ.take (j+1)).map List.length).sum<=(fab.gZ.take (j+1)).length*1000:=akW λl hl=> Nat.le_of_lt (hr l (List.mem_of_mem_take hl));have hlt:(fab.gZ.take (j+1)).length<=2*fab.l.length:=by rw [zat];omega
   have h8:((((fab.gZ.take j).map List.length).sum:Nat):Int)+(l.length:Int)=((((fab.gZ.take (j+1)).map List.length).sum:Nat):Int):=by omega
   have h9:=wrap_i64 (a:=((((fab.gZ.take (j+1)).map List.length).sum:Nat):Int)) (by omega) (by omega);have G1:Good b (Hi.new (.blk 0 115 [.ref a 0 0,.ref a' 0 0])) g:=(G.guard.ext s.next s.low).new _;have e3:=Yb G1 p3;have apg:H.next<=Hi.next:=s.next
   have sb:Hi.base=H.next:=s.base
   have hbase:Hi.base<=Hi.next:=by omega
   obtain⟨Hz,r1⟩:=ih (j+1) (by omega) _ (s.trans (Step.new (.blk 0 115 [.ref a 0 0,.ref a' 0 0]) apg));refine⟨Hz,?_⟩;rw [WQ];simp -implicitDefEqProofs only [Nat.reduceAdd,setAt,xq_,hq_,h1,a1,a3,hbase,e3,aW,h8,h9,h6,h7,r1]
 obtain⟨Hz,r1⟩:=key (2*fab.l.length) 0 (by omega) H.guard (Step.refl _ _);refine fO rfl rfl (amJ _ _ _ (r:=(I fab.under,Hz)) ?_) gW;simp -implicitDefEqProofs only [xq_,ah9,e1,e2];exact r1
end
section
variable {b:Nat}{H:aj}{g:Store}{A:Adr}{m:dV}
structure dV.fine(m:dV):Prop where
 ok:m.c.ok=true
 nodes:(m.nodes.length:Int)=m.c.nodes
 fab:m.fab.l.length=m.nodes.length
 ops:∀n∈m.nodes,n.proc.ops.length < 1000/\n.proc.values.length < 1000
 gZ:∀l∈m.fab.gZ,l.length < 1000
 deal:∀n∈m.nodes,n.deal.data.length < 1000000000
 ins:∀p∈m.fab.l,p.rin.length < 1000/\p.ain.length < 1000
def dV.left(m:dV):Int:=(m.nodes.map λn=> n.proc.left).sum
theorem uh(N:Nat->Nat->Nat)(n:Nat):(lX N n).length=n*1:=by simp [lX]
theorem Em {N:Nat->Nat->Nat}{n i:Nat}(h:i < n):(lX N n)[i]?=some (.ref (N i 0) 0 0):=by
 simp [lX,zbk h]
theorem Ye(G:Good b H g)(M:iL g A m)(hm:m.fine):cl 20 [.ref A.jQ 0 0] H=some (I m.left,H):=by
 have Bd:=pI hm.ok;refine aN rfl rfl (amQ _ _ _ ?_);obtain⟨x,hx,cu⟩:=G.seq M.jQ (i:=10) rfl;have e2:=(cu.is (by decide) (uh _ _)).lnS;have hbd:∀j,j<=m.nodes.length->-(j*1000:Int)<=((m.nodes.take j).map λn=> n.proc.left).sum/\((m.nodes.take j).map λn=> n.proc.left).sum<=j*1000:=by
  intro j
  induction j with
  | zero=> intro _;simp
  | succ j ih=>
   intro hj;have i1:=ih (by omega);have hg:m.nodes[j]?=some (m.nodes[j]'(by omega)):=zab (by omega);have i2:=hm.ops _ (zaq hg);have i3:-1000<=(m.nodes[j]'(by omega)).proc.left/\(m.nodes[j]'(by omega)).proc.left<=1000:=by
    unfold Proc.left;omega
   rw [List.take_succ,hg];simp only [zb3,zbg,zaA,zbC,List.sum_append,zbv,List.sum_nil];omega
 have key:∀k j,j+k=m.nodes.length->IK cl [I ((m.nodes.take j).map λn=> n.proc.left).sum,x,I m.nodes.length,I j] H=some (I m.left,H):=by
  intro k
  induction k with
  | zero=>
   intro j hj;have h1:¬(j:Int) < m.nodes.length:=by omega
   rw [WS];have h2:((m.nodes.take j).map λn=> n.proc.left).sum=m.left:=by
    rw [zas (by omega)];rfl
   simp -implicitDefEqProofs only [xq_,h1,h2]
  | succ k ih=>
   intro j hj;have h1:(j:Int) < m.nodes.length:=by omega
   have hn:=hm.nodes;have hBn:=Bd.nodes;have h6:(j:Int)+1=((j+1:Nat):Int):=by omega
   have h7:=wrap_i64 (a:=((j+1:Nat):Int)) (by omega) (by omega);obtain⟨r,gg,o,a1,a2,_⟩:=cu.elemAt (by decide) (uh _ _) (j:=j) (by omega);have a1:=a1 .i64;have a2:=a2 0 (by decide);rw [zbG,zbm,zbm,Em (by omega)] at a2;have hg:m.nodes[j]?=some (m.nodes[j]'(by omega)):=zab (by omega);have Nj:=M.node j _ hg;have ho:=hm.ops _ (zaq hg);have e3:=G.load Nj.1 (i:=1) rfl;have e4:=BX G Nj.2.2.1 ho.1 ho.2;have h8:((m.nodes.take j).map λn=> n.proc.left).sum+(m.nodes[j]'(by omega)).proc.left=((m.nodes.take (j+1)).map λn=> n.proc.left).sum:=by
    rw [List.take_succ,hg];simp only [zb3,zbg,zaA,zbC,List.sum_append,zbv,List.sum_nil,Int.add_zero]
   have hb1:=hbd (j+1) (by omega);have h9:=wrap_i64 (a:=((m.nodes.take (j+1)).map λn=> n.proc.left).sum) (by omega) (by omega);have r1:=ih (j+1) (by omega);rw [WS];simp -implicitDefEqProofs only [xq_,h1,a1,a2,e3,e4,aW,h8,h9,h6,h7,r1]
 have r1:=key m.nodes.length 0 (by omega);simp -implicitDefEqProofs only [xq_,aie,hx,e2];exact r1
end
def dV.busy(m:dV)(i:Nat):Bool:=match m.nodes[i]? with
 | some n=> !decide (n.deal.step=0) || n.proc.begun || decide (0 < m.fab.waiting i true+m.fab.waiting i false)
 | none=> false
def dV.quiet(m:dV):Bool:=(List.range m.nodes.length).all (λi=> !m.busy i) && decide (m.fab.under=0)
theorem EN {n:Nat}{p:Nat->Bool}{i:Nat}(hi:i < n)(h:∀j,j < i->p j=true)(hp:p i=false):(List.range n).all p=false:=by
 rw [List.all_eq_false];exact⟨i,zaW.2 hi,by rw [hp];simp⟩
theorem Jo {n:Nat}{p:Nat->Bool}(h:∀j,j < n->p j=true):(List.range n).all p=true:=by
 rw [zaV];exact λi hi=> h i (zaW.1 hi)
section
variable {b:Nat}{H:aj}{g:Store}{A:Adr}{m:dV}
theorem Jp(hm:m.fine)(i:Int)(req:Bool):m.fab.waiting i req < 1000:=by
 unfold Fab.waiting;split
 ·rename_i h;simp only [Fab.is,zaj,decide_eq_true_eq] at h;have hl:i.toNat < m.fab.l.length:=by omega
  have e:m.fab.port i=m.fab.l[i.toNat]:=by
   unfold Fab.port;rw [zaw,zab hl];rfl
  have:=hm.ins _ (List.getElem_mem hl);rw [e];cases req
  ·exact this.2
  ·exact this.1
 ·omega
theorem Jq(G:Good b H g)(M:iL g A m)(hm:m.fine):cl 10 [.ref A.jQ 0 0] H=some (B m.quiet,H):=by
 have Bd:=pI hm.ok;have hn:=hm.nodes;have hBn:=Bd.nodes;have hfl:=hm.fab;obtain⟨x,hx,cu⟩:=G.guard.seq M.jQ (i:=10) rfl;have e2:=(cu.is (by decide) (uh _ _)).lnS;have key:∀k j,j+k=m.nodes.length->(∀i,i < j->(!m.busy i)=true)->∀Hi,Step H.next H.guard Hi->
   ∃Hz,y7 cl [.ref A.jQ 0 0,x,I m.nodes.length,I j] Hi=some (B m.quiet,Hz):=by
  intro k
  induction k with
  | zero=>
   intro j hj hf Hi s;have h1:¬(j:Int) < m.nodes.length:=by omega
   have Gi:=G.guard.ext s.next s.low
   have e1:=Gi.load M.jQ (i:=0) rfl;have e3:=Sj Gi M.fab (by omega) (by omega) hm.gZ;have hq:m.quiet=decide (m.fab.under=0):=by
    unfold dV.quiet;rw [Jo λi hi=> hf i (by omega),zaK]
   have hz:decide ((m.fab.under:Int)=0)=decide (m.fab.under=0):=by simp
   rw [WM];refine⟨Hi,?_⟩;simp -implicitDefEqProofs only [xq_,h1,e1,e3,hq,hz]
  | succ k ih=>
   intro j hj hf Hi s;have h1:(j:Int) < m.nodes.length:=by omega
   have h6:(j:Int)+1=((j+1:Nat):Int):=by omega
   have h7:=wrap_i64 (a:=((j+1:Nat):Int)) (by omega) (by omega);have Gi:=G.guard.ext s.next s.low
   obtain⟨r,gg,o,a1,a2,_⟩:=(cu.ext s.next s.low).elemAt (by decide) (uh _ _) (j:=j) (by omega);have a1:=a1 .i64;have a2:=a2 0 (by decide);rw [zbG,zbm,zbm,Em (by omega)] at a2;obtain⟨n,hg⟩:∃n,m.nodes[j]?=some n:=⟨_,zab (by omega)⟩
   have Nj:=M.node j _ hg;have hnm:=zaq hg;have e3:=RZ Gi Nj.1 (hm.deal _ hnm);obtain⟨dl,hdl⟩:∃dl:bC,dl=if n.deal.step=0 then bC.zero else n.deal:=⟨_,rfl⟩
   rw [<-hdl] at e3;let dv:=dl.av;have sn:H.next<=Hi.next:=s.next
   have sb:Hi.base=H.next:=s.base
   have hbase:Hi.base<=Hi.next:=by omega
   have Gj:=Gi.new (.blk 0 57 dv);have sj:=s.trans (Step.new (.blk 0 57 dv) sn);have e4:=Gj.load M.jQ (i:=0) rfl;have e5:=Gs Gj M.fab (by omega) j;have e6:=Gj.load Nj.1 (i:=1) rfl;have e7:=MB Gj Nj.2.2.1;have w1:=Jp hm j true;have w2:=Jp hm j false;have h9:=wrap_i64 (a:=((m.fab.waiting j true+m.fab.waiting j false:Nat):Int)) (by omega) (by omega);have h8:(m.fab.waiting j true:Int)+(m.fab.waiting j false:Int)=((m.fab.waiting j true+m.fab.waiting j false:Nat):Int):=by omega
   have hb:m.busy j=(!decide (n.deal.step=0) || n.proc.begun || decide (0 < m.fab.waiting j true+m.fab.waiting j false)):=by
    unfold dV.busy;rw [hg]
   have cd:(AV.agg dv).cells=dv:=rfl;have ad:dv.all AV.aG=true:=aO _;have ld9:dv.length=9:=rfl;have E:y7 cl [.ref A.jQ 0 0,x,I m.nodes.length,I j] Hi=if m.busy j=true then some (B false,Hi.new (.blk 0 57 dv)) else y7 cl [.ref A.jQ 0 0,x,I m.nodes.length,I (j+1:Nat)] (Hi.new (.blk 0 57 dv)):=by
    rw [WM,hb];simp only [dv] at e4 e5 e6 e7;by_cases d0:n.deal.step=0
    ·cases pb:n.proc.begun with
     | true=>
      rw [pb] at e7;simp -implicitDefEqProofs only [Nat.reduceAdd,setAt,xq_,hq_,h1,a1,a2,e3,d0,zae,hbase,e4,e5,e6,e7,dv,zbI,Bool.true_or]
     | false=>
      rw [pb] at e7;by_cases hw:0 < m.fab.waiting j true+m.fab.waiting j false
      ·have hw':(0:Int) < ((m.fab.waiting j true+m.fab.waiting j false:Nat):Int):=by omega
       simp -implicitDefEqProofs only [Nat.reduceAdd,setAt,xq_,hq_,h1,a1,a2,e3,d0,zae,hbase,e4,e5,e6,e7,dv,zbI,hw,hw',aW,h8,h9]
      ·have hw':¬(0:Int) < ((m.fab.waiting j true+m.fab.waiting j false:Nat):Int):=by omega
       simp -implicitDefEqProofs only [Nat.reduceAdd,setAt,xq_,hq_,h1,a1,a2,e3,d0,zae,hbase,e4,e5,e6,e7,dv,zbI,hw,hw',aW,h8,h9,h6,h7]
    ·simp -implicitDefEqProofs only [Nat.reduceAdd,setAt,xq_,hq_,h1,a1,a2,e3,d0,zak,hbase,e4,e5,dv,Bool.true_or]
   rw [E];cases hbz:m.busy j with
   | true=>
    have hq:m.quiet=false:=by
     unfold dV.quiet;rw [EN (i:=j) (by omega) hf (by rw [hbz];rfl),zaN]
    exact⟨_,by rw [hq];rfl⟩
   | false=>
    obtain⟨Hz,r1⟩:=ih (j+1) (by omega) (λi hi=> by
     by_cases hij:i=j
     ·subst hij;rw [hbz];rfl
     ·exact hf i (by omega)) _ sj
    exact⟨Hz,r1⟩
 obtain⟨Hz,r1⟩:=key m.nodes.length 0 (by omega) (λi hi=> by omega) H.guard (Step.refl _ _);refine fO rfl rfl (amE _ _ _ (r:=(B m.quiet,Hz)) ?_) gW;simp -implicitDefEqProofs only [xq_,ah6,hx,e2];exact r1
end
theorem RU.zN {H:aj}:RU H zN []:=⟨[],aF.nil,λi v l h=> by simp at h⟩
theorem aaV {c:Cfg}(h:c.ok=true){ps:List (List Opn)}(hp:c.pz ps=true):(dV.new c ps).fine:=by
 have Bd:=pI h;obtain⟨h1,h2⟩:=BU hp;have node:∀n∈(dV.new c ps).nodes,∃i l,l∈ps/\n=.new c i l:=λn hn=> by
  simp only [dV.new,List.mem_mapIdx] at hn;obtain⟨i,hi,rfl⟩:=hn;exact⟨i,_,List.getElem_mem hi,rfl⟩
 have afK:∀p∈(dV.new c ps).fab.l,p=.zero:=λp hp=> by
  simp only [dV.new,Fab.new] at hp;exact List.eq_of_mem_replicate hp
 refine⟨h,?_,?_,λn hn=> ?_,λl hl=> ?_,λn hn=> ?_,λp hp=> ?_⟩
 ·simp only [dV.new,zck];exact h1
 ·simp only [dV.new,Fab.new,zck,zb2];omega
 ·obtain⟨i,l,hl,rfl⟩:=node n hn;have:=h2 l hl;exact⟨by show l.length < 1000;omega,by show(0:Nat) < 1000;omega⟩
 ·simp only [Fab.gZ,za6] at hl;obtain⟨p,hp,hl⟩:=hl;rw [afK p hp] at hl;simp only [Port.zero,zam,zaI,or_false,or_self] at hl;rw [hl];decide
 ·obtain⟨i,l,hl,rfl⟩:=node n hn;show(0:Nat) < _;omega
 ·rw [afK p hp];exact⟨by decide,by decide⟩
def aec:Cfg:=⟨1,1,1,1,1,1,1,[]⟩
def aZ(v n:Int):Int:=if n < 1 then 0 else v % n
def atM(l:List Int)(i:Int):Int:=if i < l.length then l.getD i.toNat 0 else 0
theorem lG {v n:Int}(h:1<=n):0<=aZ v n/\aZ v n < n:=by
 unfold aZ;rw [if_neg (by omega)];exact⟨Int.emod_nonneg _ (by omega),Int.emod_lt_of_pos _ (by omega)⟩
theorem aaW(v n:Int)(h:1<=n):v % n=if v.tmod n < 0 then v.tmod n+n else v.tmod n:=by
 have h1:=Int.tmod_eq_emod (a:=v) (b:=n);have h2:=Int.emod_nonneg v (b:=n) (by omega);have h3:=Int.emod_lt_of_pos v (b:=n) (by omega);rw [h1];rcases Decidable.em (0<=v∨n ∣ v) with hv | hv
 ·rw [if_pos hv];split <;> omega
 ·rw [if_neg hv];split <;> omega
theorem aaX(v n:Int)(h:1<=n):-n < v.tmod n/\v.tmod n < n:=by
 have h1:=Int.tmod_eq_emod (a:=v) (b:=n);have h2:=Int.emod_nonneg v (b:=n) (by omega);have h3:=Int.emod_lt_of_pos v (b:=n) (by omega);rw [h1];rcases Decidable.em (0<=v∨n ∣ v) with hv | hv
 ·rw [if_pos hv];omega
 ·rw [if_neg hv];omega
theorem lS(H:aj)(v n:Int)(hn:n<=9223372036854775807):cl 23 [I v,I n] H=some (I (aZ v n),H):=by
 refine aN rfl rfl (amT _ _ _ _ ?_);by_cases h1:n < 1
 ·simp -implicitDefEqProofs only [xq_,aau,h1,aZ]
 ·have e1:=λ(k:IntKind) (t:TypeId)=> qU (P:=Tryz.prog) (k:=k) (t:=t) (a:=v) (b:=n) (by omega);have e2:=aaW v n (by omega);have e3:=aaX v n (by omega);by_cases h2:v.tmod n < 0
  ·have w:=wrap_i64 (a:=v.tmod n+n) (by omega) (by omega);rw [if_pos h2] at e2;simp -implicitDefEqProofs only [xq_,aau,IL,h1,e1,h2,aW,w,aZ,e2]
  ·rw [if_neg h2] at e2;simp -implicitDefEqProofs only [xq_,aau,IL,h1,e1,h2,aZ,e2]
theorem afL(H:aj){x:AV}{l:List Int}(hx:aF H x 1 l.length (l.map I)){i:Int}(h0:0<=i):cl 77 [x,I i] H=some (I (atM l i),H):=by
 refine aN rfl rfl (anz _ _ _ _ ?_);have e1:=hx.lnS;by_cases h:i < l.length
 ·have a1:=hx.ix (k:=.i64) h0 h;have a2:=hx.ld (i:=i.toNat) (by omega);have hlt:i.toNat < l.length:=by omega
  rw [zaE,zab hlt] at a2;have a2':ld (bZ x i.toNat) H=some (I l[i.toNat],H):=a2;have e:atM l i=l[i.toNat]:=by
   unfold atM;rw [if_pos h,zaw,zab hlt];rfl
  simp -implicitDefEqProofs only [xq_,afp,e1,h,a1,a2',e]
 ·simp -implicitDefEqProofs only [xq_,afp,e1,h,atM]
theorem aF.upto {H:aj}{x:AV}{m n:Nat}{cells:List AV}(h:aF H x m n cells){k:IntKind}{hi:Int}(h0:0<=hi)(h1:hi<=n):∃y,slS m x none (some (.s (.int k hi))) none=some y/\aF H y m hi.toNat (cells.take (hi.toNat*m)):=by
 obtain⟨hl,h⟩:=h;have hlm:hi.toNat*m<=n*m:=zaC _ (by omega);cases x with
 | sl r g off esz len cap ex=>
  obtain⟨rfl,rfl,⟨hr,hc⟩,ty,all,h2,h3,h4⟩:=h;refine⟨_,QM h0 (by omega),by rw [zat,hl];omega,rfl,rfl,⟨hr,by omega⟩,ty,all,h2,by omega,?_⟩;rw [h4,zbV,zbf hlm]
 | vs k' esz cs=>
  obtain⟨rfl,rfl,rfl⟩:=h;refine⟨.vs hi.toNat esz (cs.take (hi.toNat*esz)),?_,by rw [zat,hl];omega,rfl,rfl,rfl⟩;simp only [slS,gK,h0,if_true];rw [if_pos ⟨trivial,zaT _,by omega⟩];simp
 | s v=>
  cases v with
  | slice a b c=>
   cases a with
   | none=>
    obtain⟨rfl,rfl,rfl⟩:=h;have h3:hi=0:=by omega
    subst h3;refine⟨zN,by simp [slS,gK],?_⟩;refine⟨?_,rfl,rfl,rfl⟩;simp
   | some a=> exact h.elim
  | _=> exact h.elim
 | _=> exact h.elim
theorem afM(H:aj){x:AV}{l:List Int}(hx:aF H x 1 l.length (l.map I))(hl:l.length < 1000000000):cl 121 [x] H=some (dat l,H):=by
 by_cases h0:l=[]
 ·subst h0;have e1:app 3 1 8 zN x H.guard=some (zN,H.guard):=by
   obtain⟨c1,c2⟩:=hx.guard.sV;simp only [app,c1,c2];rfl
  refine fO rfl rfl (adg _ _ _ (r:=(zN,H.guard)) ?_) (by rw [dat,dP];exact gW);simp -implicitDefEqProofs only [xq_,Xq,e1]
 ·have e1:=Iu (e:=3) (by_:=8) hx.guard (uP l) (λe=> h0 (zao e)) (by unfold most;omega) (by unfold most;omega);refine fO rfl rfl (adg _ _ _ (r:=(.sl H.next 0 0 1 l.length l.length false,H.guard.new (.blk 0 (3+fA) (l.map I)))) ?_) (Gq h0 (zac _) (aJ rfl));simp -implicitDefEqProofs only [xq_,Xq,e1]
theorem akX(H:aj){x:AV}{l:List Int}(hx:aF H x 1 l.length (l.map I)){n:Int}(h0:0<=n)(hn:n < 1000000000):cl 76 [x,I n] H=some (dat (l.take n.toNat),H):=by
 refine aN rfl rfl (anx _ _ _ _ ?_);have e1:=hx.lnS;obtain⟨y,e2,e3⟩:=hx.upto (k:=.i64) (hi:=min (l.length:Int) n) (by omega) (by omega);have ht:(min (l.length:Int) n).toNat=(l.take n.toNat).length:=by rw [zat];omega
 rw [ht,zbG,<-List.map_take,zat] at e3;have hm:l.take (min n.toNat l.length)=l.take n.toNat:=by
  rcases Nat.le_total n.toNat l.length with h | h
  ·rw [zbf h]
  ·rw [Nat.min_eq_right h,zas (zac _),zas h]
 rw [hm,<-zat] at e3;have e4:=afM H e3 (by rw [zat];omega);simp -implicitDefEqProofs only [xq_,aiN,e1,VE,e2,e4]
def jA.cfg(s:jA)(zi:List Int):Cfg:=
 ⟨1+aZ s.nodes 4,1+aZ s.lines 4,1+aZ s.words 2,1+aZ s.sets 2,1+aZ s.ways 2,1+aZ s.out 3,1+aZ s.inn 3,zi.take ((1+aZ s.lines 4)*(1+aZ s.words 2)).toNat⟩
theorem uj {x:AV}{l:List Int}(h:aF aj.empty x 1 l.length (l.map I))(H:aj):aF H x 1 l.length (l.map I):=
 h.gV (zaT _) λr _ hr=> absurd hr (Nat.not_lt_zero r)
theorem eU(v:Int){n:Int}(h:1<=n)(h':n<=1000):1<=1+aZ v n/\1+aZ v n<=n/\IntKind.wrap .i64 (1+aZ v n)=1+aZ v n:=by
 have:=lG (v:=v) h;exact⟨by omega,by omega,wrap_i64 (by omega) (by omega)⟩
theorem aed(s:jA)(zi:List Int):(s.cfg zi).ok=true:=by
 have a1:=eU s.nodes (n:=4) (by omega) (by omega);have a2:=eU s.lines (n:=4) (by omega) (by omega);have a3:=eU s.words (n:=2) (by omega) (by omega);have a4:=eU s.sets (n:=2) (by omega) (by omega);have a5:=eU s.ways (n:=2) (by omega) (by omega);have a6:=eU s.out (n:=3) (by omega) (by omega);have a7:=eU s.inn (n:=3) (by omega) (by omega);have hm:0<=(1+aZ s.lines 4)*(1+aZ s.words 2):=zch (by omega) (by omega);simp only [Cfg.ok,jA.cfg,zaj,zat];obtain⟨b1,c1,_⟩:=a1;obtain⟨b2,c2,_⟩:=a2;obtain⟨b3,c3,_⟩:=a3;obtain⟨b4,c4,_⟩:=a4;obtain⟨b5,c5,_⟩:=a5;obtain⟨b6,c6,_⟩:=a6;obtain⟨b7,c7,_⟩:=a7;generalize (1+aZ s.lines 4)*(1+aZ s.words 2)=z at hm ⊢;exact⟨⟨⟨⟨⟨⟨⟨⟨decide_eq_true b1,decide_eq_true (by omega)⟩,⟨decide_eq_true b2,decide_eq_true (by omega)⟩⟩,⟨decide_eq_true b3,decide_eq_true (by omega)⟩⟩,⟨decide_eq_true b4,decide_eq_true (by omega)⟩⟩,⟨decide_eq_true b5,decide_eq_true (by omega)⟩⟩,⟨decide_eq_true b6,decide_eq_true (by omega)⟩⟩,⟨decide_eq_true b7,decide_eq_true (by omega)⟩⟩,decide_eq_true (by omega)⟩
theorem Yf(c:Cfg):Frz 9 (.agg c.av):=kC λx hx=> by
 simp only [Cfg.av,zam,zaI,or_false] at hx;rcases hx with rfl | rfl | rfl | rfl | rfl | rfl | rfl | rfl <;> first | exact eu | exact qY
theorem MF(H:aj){s:jA}{zi zw zk za zv:List Int}(h:s.Ok zi zw zk za zv)(hi:aF aj.empty s.init 1 zi.length (zi.map I))(hc:s.init.aG=true/\s.who.aG=true/\s.kinds.aG=true/\s.jm.aG=true/\s.values.aG=true):
  cl 42 [.agg s.cells] H=some (.agg (s.cfg zi).av,H):=by
 refine aX rfl rfl (am2 _ _ _) ?_ (Yf _);have a1:=eU s.nodes (n:=4) (by omega) (by omega);have a2:=eU s.lines (n:=4) (by omega) (by omega);have a3:=eU s.words (n:=2) (by omega) (by omega);have a4:=eU s.sets (n:=2) (by omega) (by omega);have a5:=eU s.ways (n:=2) (by omega) (by omega);have a6:=eU s.out (n:=3) (by omega) (by omega);have a7:=eU s.inn (n:=3) (by omega) (by omega);have hm:0<=(1+aZ s.lines 4)*(1+aZ s.words 2):=zch (by omega) (by omega);have hm2:(1+aZ s.lines 4)*(1+aZ s.words 2)<=4*2:=zbW (by omega) (by omega) (by omega) (by omega);have w:=wrap_i64 (a:=(1+aZ s.lines 4)*(1+aZ s.words 2)) (by omega) (by omega);have e1:=λH v=> lS H v 4 (by omega);have e2:=λH v=> lS H v 2 (by omega);have e3:=λH v=> lS H v 3 (by omega);have e4:=λH=> akX H (uj hi H) hm (by omega);have hall:s.cells.all AV.aG=true:=by
  simp only [jA.cells,List.all_cons,List.all_nil,hc,Bool.and_true];rfl
 simp only [jA.cells] at hall;have ev:∀a b c d e f k:Int,bd 40 [(0,I a),(1,I b),(2,I c),(3,I d),(4,I e),(5,I f),(6,I k)]=some (.agg [I a,I b,I c,I d,I e,I f,I k,zN]):=λ_ _ _ _ _ _ _=> by
  simp -implicitDefEqProofs only [xq_,aeQ,gJ,dL,aeP];rfl
 have zc:zN.cells=[zN]:=rfl;have zi':zN.aG=true:=rfl;simp -implicitDefEqProofs only [Nat.reduceLT,Nat.reduceAdd,setAt,xq_,hq_,aiq,aA hall,jA.cells,e1,e2,e3,aW,a1,a2,a3,a4,a5,a6,a7,ev,gG,w,e4,zi'];rfl
def kindOf(z:Int):Int:=[1,2,3,1,2,1,4].getD (aZ z 7).toNat 0
def Yg(c:Cfg)(zk za zv:List Int)(i:Nat):Opn:=
 ⟨kindOf (atM zk i),aZ (atM za i) (c.lines*c.words),if kindOf (atM zk i)=2∨kindOf (atM zk i)=3 then atM zv i else 0⟩
def iE(c:Cfg)(zw zk za zv:List Int)(ps:List (List Opn))(i:Nat):List (List Opn):=
 let n:=(aZ (atM zw i) c.nodes).toNat
 if(ps.getD n []).length < 24 then ps.set n (ps.getD n []++[Yg c zk za zv i]) else ps
def kE(c:Cfg)(zw zk za zv:List Int):Nat->List (List Opn)
 | 0=> List.replicate c.nodes.toNat []
 | i+1=> iE c zw zk za zv (kE c zw zk za zv i) i
def mO(c:Cfg)(zw zk za zv:List Int)(most:Nat):List (List Opn):=kE c zw zk za zv (min zw.length most)
def MG(ps:List (List Opn)):List Cell:=ps.map λl=> .seq 3 (l.flatMap Opn.av)
theorem nP(c:Cfg)(zw zk za zv:List Int):∀i,(kE c zw zk za zv i).length=c.nodes.toNat
 | 0=> by simp [kE]
 | i+1=> by
  simp only [kE,iE];split
  ·rw [zb6,nP c zw zk za zv i]
  ·exact nP c zw zk za zv i
theorem aee {H:aj}{r n j:Nat}{ty:TypeId}{xs:List AV}(hg:H.get r=.blk 0 ty xs)(h:j < n){k:IntKind}:ix 1 (.sl r 0 0 1 n n true) (.s (.int k j)) H=some (.ref r 0 j,H):=by
 have h1:(0:Int)<=j/\(j:Int) < n:=by omega
 simp [ix,jl,ixO,h,aS,hg,agM,dQ.gen]
theorem Ui(z:Int):kindOf z=1∨kindOf z=2∨kindOf z=3∨kindOf z=4:=by
 have h:=lG (v:=z) (n:=7) (by omega);unfold kindOf;generalize hk:(aZ z 7).toNat=k;have:k < 7:=by omega
 match k,this with
 | 0,_ | 1,_ | 2,_ | 3,_ | 4,_ | 5,_ | 6,_=> simp
theorem Sl {ps:List (List Opn)}{j:Nat}(h:j < ps.length):(MG ps)[j]?=some (.seq 3 ((ps.getD j []).flatMap Opn.av)):=by
 simp [MG,zaw,zab h]
theorem aaY {ps:List (List Opn)}{j:Nat}{l:List Opn}:(MG ps).set j (.seq 3 (l.flatMap Opn.av))=MG (ps.set j l):=by
 simp [MG,List.map_set]
section
variable {H:aj}{s:jA}{zi zw zk za zv:List Int}
theorem PD {C:Callee}(hCa:C 77=cl 77)(hCw:C 23=cl 23)(h:s.Ok zi zw zk za zv)(hi:aF aj.empty s.init 1 zi.length (zi.map I))(hw:aF aj.empty s.who 1 zw.length (zw.map I))(hk:aF aj.empty s.kinds 1 zk.length (zk.map I))(ha:aF aj.empty s.jm 1 za.length (za.map I))(hv:aF aj.empty s.values 1 zv.length (zv.map I))
  {c:Cfg} (hc:c.ok=true) {p q r n:Nat} {ty ty':TypeId} (hp:p < H.next) (hq:q < H.next) (gp:H.get p=.blk 0 ty s.cells) (gq:H.get q=.blk 0 ty' c.av) {b:Nat} {ps:List (List Opn)} (G:Good b H (upd nil0 r (MG ps))) (hb:H.base<=b) (hn:ps.length=n) (hnc:(n:Int)=c.nodes)
  {i:Nat} {mo:Int} (him:(i:Int) < mo) (hm:mo<=1000) (hil:i < zw.length) (hz:∀j,j < n->ps.getD j []=[]->ld (.ref r 0 j) H=some (zN,H)):
  ∃H',wJ C [I mo,.ref p 0 0,.ref q 0 0,.sl r 0 0 1 n n true,I i] H=wJ C [I mo,.ref p 0 0,.ref q 0 0,.sl r 0 0 1 n n true,I (i+1:Nat)] H'/\Good b H' (upd nil0 r (MG (iE c zw zk za zv ps i)))/\Step b H H'/\(∀j,j < n->(iE c zw zk za zv ps i).getD j []=[]->ld (.ref r 0 j) H'=some (zN,H')):=by
 have Bd:=pI hc;have e8:ld (.ref p 0 8) H=some (s.who,H):=by rw [dJ gp];rfl
 have e9:ld (.ref p 0 9) H=some (s.kinds,H):=by rw [dJ gp];rfl
 have e10:ld (.ref p 0 10) H=some (s.jm,H):=by rw [dJ gp];rfl
 have e11:ld (.ref p 0 11) H=some (s.values,H):=by rw [dJ gp];rfl
 have f0:ld (.ref q 0 0) H=some (I c.nodes,H):=by rw [dJ gq];rfl
 have f1:ld (.ref q 0 1) H=some (I c.lines,H):=by rw [dJ gq];rfl
 have f2:ld (.ref q 0 2) H=some (I c.words,H):=by rw [dJ gq];rfl
 have w0:=λH=> (uj hw H).lnS;have h1:(i:Int) < zw.length:=by omega
 have a1:=λH=> afL H (uj hk H) (i:=(i:Int)) (by omega);have a2:=λH=> afL H (uj ha H) (i:=(i:Int)) (by omega);have a3:=λH=> afL H (uj hv H) (i:=(i:Int)) (by omega);have k1:=λH v=> lS H v 7 (by omega);have hlw:=Bd.jm;have w:=wrap_i64 (a:=c.lines*c.words) (by omega) (by omega);have k2:=λH v=> lS H v (c.lines*c.words) (by omega);have k3:=λH v=> lS H v c.nodes (by have:=Bd.nodes;omega);rw [<-hCa] at a1 a2 a3;rw [<-hCw] at k1 k2 k3;have eb7:∀H,bs 22 7 [(0,I 1),(1,I 2),(2,I 3),(3,I 1),(4,I 2),(5,I 1),(6,I 4)] H=some (.sl H.next 0 0 1 7 7 true,H.new (.blk 0 3 [I 1,I 2,I 3,I 1,I 2,I 1,I 4])):=λH=>
  (KR (by decide)).trans rfl
 let b7:dQ:=.blk 0 3 [I 1,I 2,I 3,I 1,I 2,I 1,I 4];let Hc:=(H.new b7).new (.blk 0 86 [zI,zI,zI]);have hK:=lG (v:=atM zk i) (n:=7) (by omega);have s7:aF Hc (.sl H.next 0 0 1 7 7 true) 1 7 [I 1,I 2,I 3,I 1,I 2,I 1,I 4]:=(jy (n:=7) (m:=1) rfl).new _;have i7:=s7.ix (k:=.i64) hK.1 hK.2;have l7:=s7.ld (i:=(aZ (atM zk i) 7).toNat) (by omega);have l7':ld (bZ (.sl H.next 0 0 1 7 7 true) (aZ (atM zk i) 7).toNat) Hc=some (I (kindOf (atM zk i)),Hc):=by
  rw [l7];unfold kindOf;generalize hk':(aZ (atM zk i) 7).toNat=kk;have:kk < 7:=by omega
  match kk,this with
  | 0,_ | 1,_ | 2,_ | 3,_ | 4,_ | 5,_ | 6,_=> rfl
 obtain⟨o,ho⟩:∃o:Opn,o=Yg c zk za zv i:=⟨_,rfl⟩
 let Hd:=(H.new b7).new (.blk 0 86 o.av);have hcn:=lG (v:=atM zw i) (n:=c.nodes) (by have:=Bd.nodes;omega);obtain⟨j,hj⟩:∃j:Nat,aZ (atM zw i) c.nodes=j:=⟨(aZ (atM zw i) c.nodes).toNat,by omega⟩
 have hjn:j < n:=by omega
 have wi:=λH=> (uj hw H).ix (k:=.i64) (i:=(i:Int)) (by omega) h1;have wl:∀H,ld (bZ s.who (i:Int).toNat) H=some (I (atM zw i),H):=λH=> by
  rw [zar,(uj hw H).ld hil,zaE,zab hil];unfold atM;rw [if_pos h1,zar,zaw,zab hil];rfl
 have G1:Good b Hd (upd nil0 r (MG ps)):=(G.new _).new _;have og:=Sl (ps:=ps) (j:=j) (by omega);obtain⟨x,hx,cu⟩:=G1.seq upd_same og;have hlen:=(cu.is (by decide) (bn dh _)).lnS;have hg:∃ty xs,Hd.get r=.blk 0 ty xs:=by
  obtain⟨_,τ,hR⟩:=G1;obtain⟨ty,xs,hg,_⟩:=(hR r _ upd_same).blk;exact⟨ty,xs,hg⟩
 obtain⟨rty,rxs,hg⟩:=hg;have ix1:=aee (k:=.i64) hg hjn;have h6:(i:Int)+1=((i+1:Nat):Int):=by omega
 have h7:=wrap_i64 (a:=((i+1:Nat):Int)) (by omega) (by omega);have f0':ld (.ref q 0 0) Hd=some (I c.nodes,Hd):=by
  simp only [Hd];rw [zX (by rw [nNew];omega),zX hq,f0];rfl
 have e8':ld (.ref p 0 8) Hd=some (s.who,Hd):=by
  simp only [Hd];rw [zX (by rw [nNew];omega),zX hp,e8];rfl
 have hzd:∀j,j < n->ps.getD j []=[]->ld (.ref r 0 j) Hd=some (zN,Hd):=λj' h1 h2=> by
  simp only [Hd];rw [zX (by rw [nNew];have:=G.lt upd_same;omega),zX (G.lt upd_same),hz j' h1 h2];rfl
 have sd:Step b H Hd:=(Step.new _ G.1).trans (Step.new _ (G.new _).1);have tail:∃H',Eb C (I mo) (.ref p 0 0) (.ref q 0 0) (.sl r 0 0 1 n n true) (I i) (.ref (H.next+1) 0 0) Hd=wJ C [I mo,.ref p 0 0,.ref q 0 0,.sl r 0 0 1 n n true,I (i+1:Nat)] H'/\Good b H' (upd nil0 r (MG (iE c zw zk za zv ps i)))/\Step b H H'/\(∀j,j < n->(iE c zw zk za zv ps i).getD j []=[]->ld (.ref r 0 j) H'=some (zN,H')):=by
  by_cases hl:(ps.getD j []).length < 24
  ·have hl':((ps.getD j []).length:Int) < 24:=by omega
   obtain⟨x',Hf,t1,fit,n1,b1,k1'⟩:=(cu.new (.blk 0 86 o.av)).app (e:=86) (by_:=24) (by rw [bNew];exact hb) (by decide) (bn dh _) (jy (ex:=true) (n:=1) (m:=3) (l:=o.av) rfl) (lq o) (by unfold most;omega) (by unfold most;omega);have hrl:r < Hd.next:=G1.lt upd_same
   have hxr:nameOf x≠some r:=by
    rcases cu.own with⟨rfl,_⟩ | ⟨r',gg,off,n',cap,ex,ty2,all,rfl,kr,_⟩
    ·intro e;cases e
    ·intro e;simp only [nameOf,zaa] at e;exact kr e
   have hgf:Hf.get r=.blk 0 rty rxs:=by
    rw [k1' r (by rw [nNew];omega) hxr,aP hrl,hg]
   have ix2:=aee (k:=.i64) hgf hjn;obtain⟨Hg,t2,G2,s2,n2⟩:=(G1.new (.blk 0 86 o.av)).seat upd_same og (cu.new _) n1 (by rw [b1,bNew];exact hb) k1' fit;have hfs:Step b (Hd.new (.blk 0 86 o.av)) Hf:=⟨b1,n1,λr' hr'=> k1' r' (by have:=G1.1;rw [nNew];omega) (cu.low hr')⟩
   refine⟨Hg,?_,?_,((sd.trans (Step.new _ G1.1)).trans hfs).trans s2,?_⟩
   ·have ldo:lda 3 (.ref (H.next+1) 0 0) Hd=some (.agg o.av,Hd):=(fJ (off:=0) (n:=3) (xs:=o.av) (aJ (by rw [nNew])) (zac 3)).trans rfl;have eb:=jw (e:=86) (m:=3) (z:=[zI,zI,zI]) (v:=.agg o.av) (H:=Hd) rfl rfl (lq o);simp only [dD] at eb;simp -implicitDefEqProofs only [xq_,Eb,IV,e8',wi,wl,f0',k3,hj,ix1,hx,hlen,hl',ldo,ag8,zbd,Nat.reduceLeDiff,eb,t1,ix2,t2,aW,h6,h7]
   ·rw [nI] at G2;have e:iE c zw zk za zv ps i=ps.set j (ps.getD j []++[o]):=by
     simp only [iE,hj,zar];rw [if_pos hl,ho]
    rw [e,<-aaY,zbA,zaH,List.flatMap_nil,zbh];exact G2
   ·have e:iE c zw zk za zv ps i=ps.set j (ps.getD j []++[o]):=by
     simp only [iE,hj,zar];rw [if_pos hl,ho]
    intro j' hj' hem;rw [e] at hem;have hne:j'≠j:=λe'=> by
     subst e';rw [zaw,zbx (by omega)] at hem;simp at hem
    have aph:ps.getD j' []=[]:=by
     rw [zaw,zbU (by omega)] at hem;rw [zaw];exact hem
    have l0:=hzd j' hj' aph;rw [dJ hg] at l0;have hxj:rxs[j']?=some zN:=by
     cases hx':rxs[j']? with
     | none=> rw [hx'] at l0;cases l0
     | some v=> rw [hx'] at l0;simp only [zai,zaa,zad] at l0;rw [l0.1]
    rw [Ir] at t2;simp only [hgf] at t2;split at t2
    ·rename_i hc';simp only [zaa,zad,true_and] at t2;subst t2;obtain⟨_,_,hx1,_,hx5⟩:=hc';rw [dJ (Dz),kR hx5,if_neg (by omega),hxj];rfl
    ·cases t2
  ·have hl':¬((ps.getD j []).length:Int) < 24:=by omega
   refine⟨Hd,?_,?_,sd,?_⟩
   ·simp -implicitDefEqProofs only [xq_,Eb,IV,e8',wi,wl,f0',k3,hj,ix1,hx,hlen,hl',aW,h6,h7]
   ·have e:iE c zw zk za zv ps i=ps:=by
     simp only [iE,hj,zar];rw [if_neg hl]
    rw [e];exact G1
   ·have e:iE c zw zk za zv ps i=ps:=by
     simp only [iE,hj,zar];rw [if_neg hl]
    rw [e];exact hzd
 obtain⟨H',t1,t2⟩:=tail;refine⟨H',?_,t2⟩;simp only [Hd,Hc,b7] at t1 i7 l7';have hb0:H.base<=H.next:=zay hb G.1
 have hb1:H.base<=H.next+1:=by omega
 rw [WW,<-t1,ho];by_cases c2:kindOf (atM zk i)=2
 ·have oe:(Yg c zk za zv i).av=[I (kindOf (atM zk i)),I (aZ (atM za i) (c.lines*c.words)),I (atM zv i)]:=by simp [Yg,Opn.av,c2]
  simp -implicitDefEqProofs only [Nat.reduceAdd,setAt,xq_,hq_,hp,hq,e8,e9,e10,e11,f1,f2,w0,h1,him,eb7,a1,a2,a3,k1,k2,i7,l7',gG,w,Z9,gJ,dL,Z8,hb1,c2,oe]
 ·by_cases c3:kindOf (atM zk i)=3
  ·have oe:(Yg c zk za zv i).av=[I (kindOf (atM zk i)),I (aZ (atM za i) (c.lines*c.words)),I (atM zv i)]:=by simp [Yg,Opn.av,c3]
   simp -implicitDefEqProofs only [Int.reduceEq,Nat.reduceAdd,setAt,xq_,hq_,hp,hq,e8,e9,e10,e11,f1,f2,w0,h1,him,eb7,a1,a2,a3,k1,k2,i7,l7',gG,w,Z9,gJ,dL,Z8,hb1,c3,oe]
  ·have oe:(Yg c zk za zv i).av=[I (kindOf (atM zk i)),I (aZ (atM za i) (c.lines*c.words)),I 0]:=by simp [Yg,Opn.av,c2,c3]
   simp -implicitDefEqProofs only [Nat.reduceAdd,setAt,xq_,hq_,hp,hq,e8,e9,e10,e11,f1,f2,w0,h1,him,eb7,a1,a2,a3,k1,k2,i7,l7',gG,w,Z9,gJ,dL,Z8,hb1,c2,c3,oe]
end
theorem Yh {α β:Type}{f:α->Option β}:∀(xs:List α) (ys:List β),xs.length=ys.length->(∀(i:Nat) x y,xs[i]?=some x->ys[i]?=some y->f x=some y)->xs.mapM f=some ys
 | [],[],_,_=> rfl
 | x::xs,y::ys,hl,h=> by
  have h0:=h 0 x y rfl rfl;have:=Yh (f:=f) xs ys (by simpa using hl) λi a b ha hb=> h (i+1) a b ha hb;rw [zbp,h0,this];rfl
 | [],_::_,hl,_=> by simp at hl
 | _::_,[],hl,_=> by simp at hl
theorem Uj {b r n sN:Nat}{H:aj}{ps:List (List Opn)}(G:Good b H (upd nil0 r (MG ps)))(hs:sN<=b)(hn:ps.length=n)(hz:∀j,j < n->ps.getD j []=[]->ld (.ref r 0 j) H=some (zN,H)):
  aT H sN 9 (.sl r 0 0 1 n n true)=some (.vs n 1 (ps.map (vsl 3 Opn.av))):=by
 have hg:∃ty xs,H.get r=.blk 0 ty xs/\xs.length=n:=by
  obtain⟨_,τ,hR⟩:=G;obtain⟨ty,xs,hg,hl,_⟩:=(hR r _ upd_same).blk;exact⟨ty,xs,hg,by rw [hl];simp [MG,hn]⟩
 obtain⟨ty,xs,hg,hl⟩:=hg;have hbr:b<=r:=G.le upd_same;refine jv (by omega) (cells:=xs) ?_ (Yh _ _ (by rw [hl,zaF,hn]) λi x y hx hy=> ?_)
 ·simp only [aY,hg];rw [if_pos ⟨trivial,by omega⟩,zaR,zas (by omega)]
 ·rw [zaE,zbi] at hy;obtain⟨l,hpl,rfl⟩:=hy;have hi:i < n:=by have:=(zaf.1 hpl).1;omega
  have hgd:ps.getD i []=l:=by rw [zaw,hpl];rfl
  by_cases h0:l=[]
  ·have e:=hz i hi (by rw [hgd,h0]);rw [dJ hg,hx] at e;simp only [zai,zaa,zad,and_true] at e;rw [e,h0,dP];exact gW
  ·obtain⟨x',hx',cu⟩:=G.seq upd_same (Sl (ps:=ps) (j:=i) (by omega));rw [dJ hg,hx] at hx';simp only [zai,zaa,zad,and_true] at hx';subst hx';rw [hgd] at cu;have hs':=cu.is (by decide) (bn dh l);obtain⟨c1,c2⟩:=hs'.sV;rcases cu.own with⟨_,e⟩ | ⟨r',gg,off,n',cap,ex,ty2,all,rfl,kr,kb,_⟩
   ·have:=congrArg List.length e;rw [bn dh] at this;simp only [zau] at this;exact absurd (zao (by omega)) h0
   ·have hn':n'=l.length:=hs'.2.2.1;subst hn';rw [Ba h0];refine jv (by omega) c2 (fH _ λy hy=> ?_);obtain⟨o,_,ho⟩:=za6.1 hy;simp only [Opn.av,zam,zaI,or_false] at ho;rcases ho with rfl | rfl | rfl <;> exact gW
theorem akY(H:aj)(ps:List (List Opn)):RU H (.vs ps.length 1 (ps.map (vsl 3 Opn.av))) ps:=
 ⟨_,aF.vs (by simp),λi v l h1 h2=> by
  rw [zaE,h2] at h1;cases h1;exact⟨Du dh H l,λh=> by rw [h,dP]⟩⟩
section
variable {H:aj}{s:jA}{zi zw zk za zv:List Int}
theorem MJ {C:Callee}(hCa:C 77=cl 77)(hCw:C 23=cl 23)(hCc:C 42=cl 42)(H:aj)(hbn:H.base<=H.next)(h:s.Ok zi zw zk za zv)(hi:aF aj.empty s.init 1 zi.length (zi.map I))(hw:aF aj.empty s.who 1 zw.length (zw.map I))(hk:aF aj.empty s.kinds 1 zk.length (zk.map I))(ha:aF aj.empty s.jm 1 za.length (za.map I))(hv:aF aj.empty s.values 1 zv.length (zv.map I))
  (hc:s.init.aG=true/\s.who.aG=true/\s.kinds.aG=true/\s.jm.aG=true/\s.values.aG=true) {mo:Nat} (hm:mo<=1000):
  ∃Hz r,r=H.next+2/\aff C (.agg s.cells) (I mo) H=some (.sl r 0 0 1 (s.cfg zi).nodes.toNat (s.cfg zi).nodes.toNat true,Hz)/\Good (H.next+2) Hz (upd nil0 r (MG (mO (s.cfg zi) zw zk za zv mo)))/\Step H.next H Hz/\(∀j,j < (s.cfg zi).nodes.toNat->(mO (s.cfg zi) zw zk za zv mo).getD j []=[]->ld (.ref r 0 j) Hz=some (zN,Hz)):=by
 let c:=s.cfg zi;have hck:c.ok=true:=aed s zi;have Bd:=pI hck;let n:=c.nodes.toNat;let H1:=H.new (.blk 0 24 s.cells);let H2:=H1.new (.blk 0 40 c.av);let H3:=H2.new (.blk 0 98 (bG [zN] n));let r:=H.next+2
 have hall:s.cells.all AV.aG=true:=by
  simp only [jA.cells,List.all_cons,List.all_nil,hc,Bool.and_true];rfl
 have M0:Made H2 H3 (upd nil0 r (MG (kE c zw zk za zv 0))):=by
  refine jH ?_ ?_ λi cc x hcc hx=> ?_
  ·rw [jF];simp;right;rfl
  ·rw [jF];simp [MG,kE,n]
  ·rw [jF,zbl] at hx;simp only [MG,kE,List.map_replicate,zbl] at hcc;by_cases hin:i < n
   ·rw [if_pos hin] at hx hcc;simp only [zaa] at hx hcc;subst hx;subst hcc;exact .inr ⟨rfl,3,rfl⟩
   ·rw [if_neg hin] at hx;cases hx
 have gp:H2.get H.next=.blk 0 24 s.cells:=by
  simp only [H2];rw [aP (by simp only [H1,nNew];omega)];exact aJ rfl
 have gq:H2.get (H.next+1)=.blk 0 40 c.av:=aJ rfl;have b2:H2.base=H.base:=rfl;have n2:H2.next=H.next+2:=rfl
 have key:∀k i,i+k=min zw.length mo->∀Hi,Good H2.next Hi (upd nil0 r (MG (kE c zw zk za zv i)))->Step H2.next H2 Hi->(∀j,j < n->(kE c zw zk za zv i).getD j []=[]->ld (.ref r 0 j) Hi=some (zN,Hi))->
   ∃Hz,Step H2.next H2 Hz/\wJ C [I mo,.ref H.next 0 0,.ref (H.next+1) 0 0,.sl r 0 0 1 n n true,I i] Hi=some (.sl r 0 0 1 n n true,Hz)/\Good H2.next Hz (upd nil0 r (MG (mO c zw zk za zv mo)))/\(∀j,j < n->(mO c zw zk za zv mo).getD j []=[]->ld (.ref r 0 j) Hz=some (zN,Hz)):=by
  intro k
  induction k with
  | zero=>
   intro i hik Hi G st hz;have e8:ld (.ref H.next 0 8) Hi=some (s.who,Hi):=by rw [dJ (by rw [st.low _ (by omega)];exact gp)];rfl
   have w0:=λH=> (uj hw H).lnS;have hi':min zw.length mo=i:=by omega
   refine⟨Hi,st,?_,by rw [mO,hi'];exact G,by rw [mO,hi'];exact hz⟩;rw [WW];by_cases h1:(i:Int) < zw.length
   ·have h2:¬(i:Int) < mo:=by omega
    simp -implicitDefEqProofs only [xq_,e8,w0,h1,h2]
   ·simp -implicitDefEqProofs only [xq_,e8,w0,h1]
  | succ k ih=>
   intro i hik Hi G st hz;obtain⟨H',t1,t2,t3,t4⟩:=PD hCa hCw h hi hw hk ha hv hck (p:=H.next) (q:=H.next+1) (r:=r) (n:=n) (by have:=st.next;omega) (by have:=st.next;omega) (by rw [st.low _ (by omega)];exact gp) (by rw [st.low _ (by omega)];exact gq) G (by rw [st.base,b2,n2];omega) (nP _ _ _ _ _ _) (by have:=Bd.nodes;omega) (i:=i) (mo:=mo) (by omega) (by omega) (by omega) hz;rw [t1];exact ih (i+1) (by omega) H' t2 (st.trans t3) t4
 have g3:H3.get r=.blk 0 98 (bG [zN] n):=aJ n2.symm;obtain⟨Hz,r0,r1,r2,r3⟩:=key (min zw.length mo) 0 (by omega) H3 M0.good (Step.new _ (zac _)) (λj hj _=> by
  rw [dJ g3,jF,zbl,if_pos hj];rfl)
 have hs:Step H.next H Hz:=(Step.new _ (zac _)).trans ((Step.new _ (zba _)).trans ⟨r0.base,r0.next,λr hr=> r0.low r (by omega)⟩)
 refine⟨Hz,r,rfl,?_,r2,hs,r3⟩;have e1:=λH=> MF H h hi hc;rw [<-hCc] at e1;have hn:=Bd.nodes;have e2:=V6 (e:=98) (m:=1) (by_:=24) (z:=[zN]) (n:=c.nodes) (H:=H2) rfl rfl (by omega) (by omega) (by decide);have ls:s.cells.length=12:=rfl;have lt:s.cells.take 12=s.cells:=rfl;have l0:c.av[0]?=some (I c.nodes):=rfl;have cc:(AV.agg c.av).cells=c.av:=rfl;have lc:c.av.length=8:=rfl;rw [n2] at e2;simp only [H2,H1] at e2;have hnn:c.nodes.toNat=n:=rfl;rw [hnn] at e2;simp only [c] at e2 l0;have hb1:H.base<=H.next+1:=by omega
 simp -implicitDefEqProofs only [Nat.reduceLT,Nat.reduceAdd,setAt,xq_,hq_,aff,aA hall,ls,lt,e1,l0,e2,hb1];exact r1
theorem PE(H:aj)(h:s.Ok zi zw zk za zv)(hi:aF aj.empty s.init 1 zi.length (zi.map I))(hw:aF aj.empty s.who 1 zw.length (zw.map I))(hk:aF aj.empty s.kinds 1 zk.length (zk.map I))(ha:aF aj.empty s.jm 1 za.length (za.map I))(hv:aF aj.empty s.values 1 zv.length (zv.map I))
  (hc:s.init.aG=true/\s.who.aG=true/\s.kinds.aG=true/\s.jm.aG=true/\s.values.aG=true) {mo:Nat} (hm:mo<=1000):
  ∃ps,ps=mO (s.cfg zi) zw zk za zv mo/\cl 43 [.agg s.cells,I mo] H=some (.vs ps.length 1 (ps.map (vsl 3 Opn.av)),H):=by
 refine⟨_,rfl,?_⟩;obtain⟨Hz,r,hr,e,G,st,hz⟩:=MJ (C:=cl) rfl rfl rfl H.guard (zac _) h hi hw hk ha hv hc hm;have hlen:(mO (s.cfg zi) zw zk za zv mo).length=(s.cfg zi).nodes.toNat:=nP _ _ _ _ _ _;have fz:=Uj (sN:=H.next) G (by simp only [yO];omega) hlen hz;exact fO rfl rfl (am3 _ _ _ _ e) (by rw [fz,hlen])
end
theorem zq(c:Cfg)(zw zk za zv:List Int):∀i,∀l∈kE c zw zk za zv i,l.length<=24
 | 0,l,h=> by
  rw [List.eq_of_mem_replicate h];decide
 | i+1,l,h=> by
  simp only [kE,iE] at h;split at h
  ·rename_i hl;rcases zbN h with h | rfl
   ·exact zq c zw zk za zv i l h
   ·rw [zan];simp only [zal,zau];omega
  ·exact zq c zw zk za zv i l h
theorem Uk(H:aj)(n m:Int):cl 122 [I n,I m] H=some (B (within n m),H):=by
 refine aX rfl rfl (ajx _ _ _ _) ?_ eu;by_cases h:1<=n
 ·simp -implicitDefEqProofs only [xq_,Xr,h,within,zaK]
 ·simp -implicitDefEqProofs only [xq_,Xr,h,within,zaN]
theorem akZ {c:Cfg}(h1:within c.lines 8=true)(h2:within c.words 4=true):IntKind.wrap .i64 (c.lines*c.words)=c.lines*c.words:=by
 simp only [within,zaj,decide_eq_true_eq] at h1 h2;have:c.lines*c.words<=8*4:=zbW h1.2 h2.2 (by omega) (by omega);have:0<=c.lines*c.words:=zch (by omega) (by omega);exact wrap_i64 (by omega) (by omega)
theorem Yi(H:aj)(c:Cfg):cl 78 [.agg c.av] H=some (B c.ok,H):=by
 refine aX rfl rfl (anA _ _ _) ?_ eu;have w:=λH n m=> Uk H n m;have e1:=λH=> (jh H c.init).lnS;cases h1:within c.nodes 6
 ·simp -implicitDefEqProofs only [Nat.reduceLT,xq_,hq_,I5,aA,Cfg.av,Cfg.ok,w,h1,zaN]
 cases h2:within c.lines 8
 ·simp -implicitDefEqProofs only [Nat.reduceLT,xq_,hq_,I5,aA,Cfg.av,Cfg.ok,w,h1,h2,zaN,zaK]
 cases h3:within c.words 4
 ·simp -implicitDefEqProofs only [Nat.reduceLT,xq_,hq_,I5,aA,Cfg.av,Cfg.ok,w,h1,h2,h3,zaN,zaK]
 cases h4:within c.sets 4
 ·simp -implicitDefEqProofs only [Nat.reduceLT,xq_,hq_,I5,aA,Cfg.av,Cfg.ok,w,h1,h2,h3,h4,zaN,zaK]
 cases h5:within c.ways 3
 ·simp -implicitDefEqProofs only [Nat.reduceLT,xq_,hq_,I5,aA,Cfg.av,Cfg.ok,w,h1,h2,h3,h4,h5,zaN,zaK]
 cases h6:within c.out 8
 ·simp -implicitDefEqProofs only [Nat.reduceLT,xq_,hq_,I5,aA,Cfg.av,Cfg.ok,w,h1,h2,h3,h4,h5,h6,zaN,zaK]
 cases h7:within c.inn 8
 ·simp -implicitDefEqProofs only [Nat.reduceLT,xq_,hq_,I5,aA,Cfg.av,Cfg.ok,w,h1,h2,h3,h4,h5,h6,h7,zaN,zaK]
 have hm:=akZ h2 h3;simp -implicitDefEqProofs only [Nat.reduceLT,xq_,hq_,I5,aA,Cfg.av,Cfg.ok,w,h1,h2,h3,h4,h5,h6,h7,e1,gG,hm,zaK]
theorem aaZ(H:aj)(c:Cfg):cl 54 [.agg c.av] H=some (I (if c.ok=true then 0 else 1),H):=by
 by_cases h:c.ok=true
 ·rw [if_pos h];exact RS H c h
 rw [if_neg h];refine aX rfl rfl (aiA _ _ _) ?_ eu;have w:=λH n m=> L6 H n m;have e1:=λH=> (jh H c.init).lnS;have two:∀b:Bool,b=false∨b=true:=λb=> by cases b <;> simp
 have hs:within c.nodes 6=false∨(within c.nodes 6=true/\within c.lines 8=false)∨(within c.nodes 6=true/\within c.lines 8=true/\within c.words 4=false)∨(within c.nodes 6=true/\within c.lines 8=true/\within c.words 4=true):=by
  rcases two (within c.nodes 6) with a | a <;> rcases two (within c.lines 8) with b | b <;> rcases two (within c.words 4) with d | d <;> simp only [a,b,d,true_and,and_true,or_true,and_self,or_false,zbS,zah]
 have hc:within c.sets 4=false∨(within c.sets 4=true/\within c.ways 3=false)∨(within c.sets 4=true/\within c.ways 3=true):=by
  rcases two (within c.sets 4) with a | a <;> rcases two (within c.ways 3) with b | b <;> simp only [a,b,true_and,and_true,or_true,and_self,or_false,zbS,zah]
 have hr:within c.out 8=false∨(within c.out 8=true/\within c.inn 8=false)∨(within c.out 8=true/\within c.inn 8=true):=by
  rcases two (within c.out 8) with a | a <;> rcases two (within c.inn 8) with b | b <;> simp only [a,b,true_and,and_true,or_true,and_self,or_false,zbS,zah]
 by_cases hall:within c.nodes 6=true/\within c.lines 8=true/\within c.words 4=true/\within c.sets 4=true/\within c.ways 3=true/\within c.out 8=true/\within c.inn 8=true
 ·obtain⟨h1,h2,h3,h4,h5,h6,h7⟩:=hall;have hm:=akZ h2 h3;have k:c.lines*c.words < c.init.length:=by
   simp only [Cfg.ok,h1,h2,h3,h4,h5,h6,h7,zaK,decide_eq_true_eq] at h;omega
  simp -implicitDefEqProofs only [Nat.reduceLT,xq_,hq_,aaA,aA,Cfg.av,w,h1,h2,h3,h4,h5,h6,h7,e1,gG,hm,k,zae]
 ·rcases hs with h1 | ⟨h1,h2⟩ | ⟨h1,h2,h3⟩ | ⟨h1,h2,h3⟩ <;> rcases hc with h4 | ⟨h4,h5⟩ | ⟨h4,h5⟩ <;> rcases hr with h6 | ⟨h6,h7⟩ | ⟨h6,h7⟩ <;>
   first
   | (simp -implicitDefEqProofs only [Nat.reduceLT,xq_,hq_,aaA,aA,Cfg.av, *,zae,zak];done)
   | exact absurd ⟨h1,h2,h3,h4,h5,h6,h7⟩ hall
theorem Yj {c:Cfg}(h:c.ok=true)(a:Int):decide (c.cO a≠-1)=(decide (0<=a) && decide (a < c.lines*c.words)):=by
 have Bd:=pI h;have hw:=Bd.words;by_cases h0:0<=a
 ·by_cases h1:a < c.lines*c.words
  ·have:0<=a / c.words:=Int.ediv_nonneg h0 (by omega);have:¬(a < 0∨c.lines*c.words<=a):=by omega
   simp only [Cfg.cO,Cfg.jm,this,if_false,h0,h1,decide_true,zca,decide_eq_true_eq];omega
  ·have:a < 0∨c.lines*c.words<=a:=by omega
   simp [Cfg.cO,Cfg.jm,this,h1]
 ·have:a < 0∨c.lines*c.words<=a:=by omega
  simp [Cfg.cO,Cfg.jm,this,h0]
theorem PG(H:aj)(c:Cfg)(h:c.ok=true)(o:Opn):cl 123 [.agg c.av,.agg o.av] H=some (B (c.right o),H):=by
 refine aX rfl rfl (ajy _ _ _ _) ?_ eu;have hl:=Yj h o.addr;have Bd:=pI h;have hm:=wrap_i64 (a:=c.lines*c.words) (by have:=Bd.jm;omega) (by have:=Bd.jm;omega);rw [Cfg.right,hl];have b1:c.av[1]?=some (I c.lines):=rfl;have b2:c.av[2]?=some (I c.words):=rfl;by_cases a:1<=o.kind;rotate_left
 ·simp -implicitDefEqProofs only [Nat.reduceLT,xq_,hq_,xR,aA,Opn.av,a,zaN]
 by_cases b:o.kind<=4;rotate_left
 ·simp -implicitDefEqProofs only [Nat.reduceLT,xq_,hq_,xR,aA,Opn.av,a,b,zaN,zaK]
 by_cases d:0<=o.addr;rotate_left
 ·simp -implicitDefEqProofs only [Nat.reduceLT,xq_,hq_,xR,aA,Opn.av,a,b,d,zaN,zaK]
 by_cases e:o.addr < c.lines*c.words;rotate_left
 ·simp -implicitDefEqProofs only [Nat.reduceLT,xq_,hq_,xR,aA,Opn.av,b1,b2,a,b,d,e,gG,hm,zaN,zaK]
 by_cases f:o.value=0
 ·simp -implicitDefEqProofs only [Nat.reduceLT,xq_,hq_,xR,aA,Opn.av,b1,b2,a,b,d,e,f,gG,hm,Bool.true_or]
 by_cases g:o.kind=2
 ·simp -implicitDefEqProofs only [Nat.reduceLT,Int.reduceLE,Int.reduceEq,xq_,hq_,xR,aA,Opn.av,b1,b2,d,e,f,g,gG,hm,Bool.true_or,zbI]
 by_cases i:o.kind=3
 ·simp -implicitDefEqProofs only [Nat.reduceLT,Int.reduceLE,Int.reduceEq,xq_,hq_,xR,aA,Opn.av,b1,b2,d,e,f,i,gG,hm,zbI]
 ·simp -implicitDefEqProofs only [Nat.reduceLT,xq_,hq_,xR,aA,Opn.av,b1,b2,a,b,d,e,f,g,i,gG,hm,zaK,zbI]
def aef(c:Cfg)(l:List Opn):Bool:=decide (l.length<=24) && l.all c.right
theorem afN(H:aj)(c:Cfg)(h:c.ok=true){x:AV}{ps:List (List Opn)}(hx:RU H x ps)(hn:ps.length < 1000000000)(hl:∀l∈ps,l.length < 1000000000):cl 79 [.agg c.av,x] H=some (B (c.pz ps),H):=by
 refine aX rfl rfl (anB _ _ _ _) ?_ eu;let H0:=H.guard.new (.blk 0 40 c.av);have n0:H0.next=H.next+1:=rfl
 have hx1:=hx.gV (H':=H0) (by rw [n0];omega) λr hr=> by simp only [H0];rw [aP (by rw [yO];exact hr),amm]
 -- what a memory is that has gone on from there
 have keep:∀{H1:aj},H0.next<=H1.next->(∀r,r < H0.next->H1.get r=H0.get r)->RU H1 x ps/\lda 8 (.ref H.next 0 0) H1=some (.agg c.av,H1)/\ld (.ref H.next 0 0) H1=some (I c.nodes,H1):=by
  intro H1 a b;have g:H1.get H.next=.blk 0 40 c.av:=by rw [b _ (by omega)];exact aJ rfl
  exact⟨hx1.gV a b,iH g,by rw [dJ g];rfl⟩
 have l0:c.av[0]?=some (I c.nodes):=rfl;obtain⟨aoH,x0,_⟩:=hx1;have e1:=x0.lnS;by_cases hc:(ps.length:Int)=c.nodes;rotate_left
 ·simp only [H0] at e1;simp -implicitDefEqProofs only [Nat.reduceLT,xq_,hq_,afr,aA (dG c),e1,l0,hc,Cfg.pz,zb0,zak]
 -- the operations of one program
 have inner:∀(i:Nat) (l:List Opn),ps[i]?=some l->l.length < 1000000000->∀k j,j+k=l.length->(l.take j).all c.right=true->∀H1:aj,H.next<=H1.base->H0.next<=H1.next->(∀r,r < H0.next->H1.get r=H0.get r)->H1.base<=H1.next->∀(u v:AV),aF H0 v 3 l.length (l.flatMap Opn.av)->
   (l.all c.right=false->(tX cl [.ref H.next 0 0,x,I ps.length,I i,v,I l.length,I j] H1).map Prod.fst=some (B false))/\
   (l.all c.right=true->∃H2,H.next<=H2.base/\H0.next<=H2.next/\(∀r,r < H0.next->H2.get r=H0.get r)/\H2.base<=H2.next/\tX cl [.ref H.next 0 0,x,I ps.length,I i,v,I l.length,I j] H1=y8 cl [.ref H.next 0 0,x,I ps.length,I (i+1:Nat)] H2):=by
  intro i l hi hll k;have hip:i < ps.length:=(zaf.1 hi).1
  induction k with
  | zero=>
   intro j hj hall H1 b0 b1 b2 b3 u v hv;have h1:¬(j:Int) < l.length:=by omega
   have hal:l.all c.right=true:=by rw [zas (by omega)] at hall;exact hall
   have h6:(i:Int)+1=((i+1:Nat):Int):=by omega
   have h7:=wrap_i64 (a:=((i+1:Nat):Int)) (by omega) (by omega);refine⟨λh=> (by rw [hal] at h;cases h),λ_=> ⟨H1,b0,b1,b2,b3,?_⟩⟩;rw [Pm];simp -implicitDefEqProofs only [Nat.reduceAdd,setAt,xq_,hq_,h1,aW,h6,h7]
  | succ k ih=>
   intro j hj hall H1 b0 b1 b2 b3 u v hv;have h1:(j:Int) < l.length:=by omega
   have hv1:=hv.gV (H':=H1) b1 λr _ hr=> b2 r hr;have h3:=hv1.ix (k:=.i64) (i:=(j:Int)) (by omega) h1;rw [zar] at h3;obtain⟨o,ho⟩:∃o,l[j]?=some o:=⟨_,zab (by omega)⟩
   have h4:=jG dh hv1 ho;obtain⟨_,k2,_⟩:=keep b1 b2;have h5:=λH=> PG H c h o;have lt0:H.next < H1.next:=by omega
   have h6:(j:Int)+1=((j+1:Nat):Int):=by omega
   have h7:=wrap_i64 (a:=((j+1:Nat):Int)) (by omega) (by omega);have hz:H1.base<=H1.next:=b3
   cases hr:c.right o with
   | false=>
    have hal:l.all c.right=false:=by
     rw [List.all_eq_false];exact⟨o,zaq ho,by simp [hr]⟩
    refine⟨λ_=> ?_,λh=> (by rw [hal] at h;cases h)⟩;rw [Pm];simp -implicitDefEqProofs only [Nat.reduceAdd,setAt,xq_,hq_,h1,h3,h4,k2,h5,lt0,hr,hz,zak]
   | true=>
    have an2:(l.take (j+1)).all c.right=true:=by
     rw [List.take_add_one,ho,za7,hall];simp [hr]
    have key:=ih (j+1) (by omega) an2 (H1.new (.blk 0 86 o.av)) b0 (zbB b1) (λr hr=> by rw [aP (by omega)];exact b2 r hr) (zbB b3) u v hv;have step:tX cl [.ref H.next 0 0,x,I ps.length,I i,v,I l.length,I j] H1=tX cl [.ref H.next 0 0,x,I ps.length,I i,v,I l.length,I (j+1:Nat)] (H1.new (.blk 0 86 o.av)):=by
     rw [Pm];simp -implicitDefEqProofs only [Nat.reduceAdd,setAt,xq_,hq_,h1,h3,h4,k2,h5,lt0,hr,hz,zae,aW,h6,h7]
    rw [step];exact key
 have outer:∀k i,i+k=ps.length->(ps.take i).all (aef c)=true->∀H1:aj,H.next<=H1.base->H0.next<=H1.next->(∀r,r < H0.next->H1.get r=H0.get r)->H1.base<=H1.next->(y8 cl [.ref H.next 0 0,x,I ps.length,I i] H1).map Prod.fst=some (B (ps.all (aef c))):=by
  intro k
  induction k with
  | zero=>
   intro i hi hall H1 b0 b1 b2 b3;have h1:¬(i:Int) < ps.length:=by omega
   rw [zas (by omega)] at hall;rw [hall,I7];simp -implicitDefEqProofs only [xq_,h1]
  | succ k ih=>
   intro i hi hall H1 b0 b1 b2 b3;have h1:(i:Int) < ps.length:=by omega
   obtain⟨⟨cells,x1,x2⟩,_,_⟩:=keep b1 b2;have hcl:cells.length=ps.length:=by have:=x1.1;omega
   have h3:=x1.ix (k:=.i64) (i:=(i:Int)) (by omega) h1;rw [zar] at h3;obtain⟨v,hv⟩:∃v,cells[i]?=some v:=⟨_,zab (by omega)⟩
   obtain⟨l,hpl⟩:∃l,ps[i]?=some l:=⟨_,zab (by omega)⟩
   have h4:=x1.ld (i:=i) (by omega);rw [hv] at h4;obtain⟨y1,_⟩:=x2 i v l hv hpl;have h5:=y1.lnS;have hll:=hl l (zaq hpl)
   -- the same slice,at first
   have y0:aF H0 v 3 l.length (l.flatMap Opn.av):=by
    obtain⟨⟨cells',z1,z2⟩,_,_⟩:=keep (H1:=H0) (zac _) λ_ _=> rfl;have hv':cells'[i]?=some v:=by
     have:=(z1.gV (H':=H1) b1 λr _ hr=> b2 r hr).ld (i:=i) (by omega);rw [h4] at this;cases hc':cells'[i]? with
     | none=> rw [hc'] at this;cases this
     | some w=> rw [hc'] at this;simp only [zai,zaa,zad,and_true] at this;rw [this]
    exact(z2 i v l hv' hpl).1
   by_cases hlen:l.length<=24
   ·have h24:¬(24:Int) < l.length:=by omega
    have:=inner i l hpl hll l.length 0 (by omega) (by simp) H1 b0 b1 b2 b3 v v y0;cases hr:l.all c.right with
    | false=>
     have hal:ps.all (aef c)=false:=by
      rw [List.all_eq_false];exact⟨l,zaq hpl,by simp [aef,hr]⟩
     have t:=this.1 hr;rw [hal,I7];simp -implicitDefEqProofs only [xq_,h1,h3,h4,h5,h24];exact t
    | true=>
     obtain⟨H2,c0,c1,c2,c3,t⟩:=this.2 hr;have:=ih (i+1) (by omega) (by rw [List.take_add_one,hpl,za7,hall];simp [aef,hlen,hr]) H2 c0 c1 c2 c3;rw [I7];simp -implicitDefEqProofs only [xq_,h1,h3,h4,h5,h24];have t':tX cl [.ref H.next 0 0,x,I ps.length,I i,v,I l.length,I 0] H1=y8 cl [.ref H.next 0 0,x,I ps.length,I (i+1:Nat)] H2:=t;rw [t'];exact this
   ·have h24:(24:Int) < l.length:=by omega
    have hal:ps.all (aef c)=false:=by
     rw [List.all_eq_false];exact⟨l,zaq hpl,by simp [aef,hlen]⟩
    rw [hal,I7];simp -implicitDefEqProofs only [xq_,h1,h3,h4,h5,h24]
 have fin:=outer ps.length 0 (by omega) (by simp) H0 (zac _) (zac _) (λ_ _=> rfl) (by rw [n0];show H.next<=_;omega);have eo:c.pz ps=ps.all (aef c):=by simp only [Cfg.pz,hc,decide_true,Bool.and_true];rfl
 rw [eo];simp only [H0] at e1 fin;simp -implicitDefEqProofs only [Nat.reduceLT,xq_,hq_,afr,aA (dG c),e1,l0,hc];rw [<-hc];exact fin
theorem Ul {β:Type}{w:Option Nat}{H H':aj}{k:Option β}(h:∀r,w=some r->H'.get r=H.get r):ck w H H' k=k:=if_pos h
theorem zx {H1:aj}{n d m k:Nat}{x:AV}{cells:List AV}(c:Own n H1 x m cells)(hm:0 < m)(hl:cells.length=k*m)(hz:∀y∈cells,aT H1 n d y=some y)(hk:k≠0):aT H1 n (d+1) x=some (.vs k m cells):=by
 rcases c with⟨rfl,rfl⟩ | ⟨r,g,off,n',cap,ex,ty,all,rfl,k2,k3,k4,k5,k6,k7,rfl⟩
 ·simp only [zau] at hl;rcases Nat.mul_eq_zero.1 hl.symm with h | h <;> omega
 ·have hcm:n'*m<=cap*m:=zaC _ k4;rw [zat,zaQ,zbf (by omega)] at hl;have:n'=k:=zbJ hm hl;subst this;exact jv k2 (cells:=(all.drop off).take (n'*m)) (by simp only [aY,k5];rw [if_pos ⟨trivial,by omega⟩]) (fH _ hz)
theorem Yk {c:Cfg}{line:Int}(h0:0<=line)(h1:line < c.lines){i:Nat}(hi:i < c.words.toNat):(c.first line)[i]?=some (c.init.getD ((line*c.words).toNat+i) 0):=by
 unfold Cfg.first
 rw [if_neg (by omega),zaE,zbk hi];rfl
theorem MK {c:Cfg}{line:Int}(h0:0<=line)(h1:line < c.lines):(c.first line).length=c.words.toNat:=by
 unfold Cfg.first
 rw [if_neg (by omega)];simp
theorem Um(H:aj)(c:Cfg)(h:c.ok=true)(line:Int)(h0:0<=line)(h1:line < c.lines):cl 171 [.agg c.av,I line] H=some (dat (c.first line),H):=by
 have Bd:=pI h;have hw:=Bd.words;have hlw:0<=line*c.words:=zch h0 (by omega);have apf:line*c.words<=8*4:=zbW (by have:=Bd.lines;omega) hw.2 (by omega) (by omega);have w:=wrap_i64 (a:=line*c.words) (by omega) (by omega);let H0:=H.guard.new (.blk 0 40 c.av);have g0:H0.get H.next=.blk 0 40 c.av:=aJ rfl
 have key:∀k i,i+k=c.words.toNat->∀(H1:aj) (x:AV),H.next<=H1.next->H1.base=H.next->H1.get H.next=.blk 0 40 c.av->Own (H.next+1) H1 x 1 (((c.first line).take i).map I)->H.next+1<=H1.next->
   ∃H2 y,BJ cl [I line,.ref H.next 0 0,x,I i] H1=some (y,H2)/\Own (H.next+1) H2 y 1 ((c.first line).map I):=by
  intro k
  induction k with
  | zero=>
   intro i hi H1 x n1 b1 g1 O n2;have l2:ld (.ref H.next 0 2) H1=some (I c.words,H1):=by rw [dJ g1];rfl
   have hn:¬(i:Int) < c.words:=by omega
   rw [zas (by rw [MK h0 h1];omega)] at O;refine⟨H1,x,?_,O⟩;rw [Rx];simp -implicitDefEqProofs only [xq_,l2,hn]
  | succ k ih=>
   intro i hi H1 x n1 b1 g1 O n2;have l2:ld (.ref H.next 0 2) H1=some (I c.words,H1):=by rw [dJ g1];rfl
   have l7:ld (.ref H.next 0 7) H1=some (dat c.init,H1):=by rw [dJ g1];rfl
   have hn:(i:Int) < c.words:=by omega
   have e1:=(jh H1 c.init).lnS;have w2:=wrap_i64 (a:=line*c.words+i) (by omega) (by omega);have h6:(i:Int)+1=((i+1:Nat):Int):=by omega
   have h7:=wrap_i64 (a:=((i+1:Nat):Int)) (by omega) (by omega);have hg:=Yk (c:=c) (line:=line) h0 h1 (i:=i) (by omega);have tail:∀v:Int,v=c.init.getD ((line*c.words).toNat+i) 0->∃H2 y,BK cl (I line) (.ref H.next 0 0) x (I i) (I v) H1=some (y,H2)/\Own (H.next+1) H2 y 1 ((c.first line).map I):=by
    intro v hv;have eb:bs 22 1 [(0,I v)] H1=some (.sl H1.next 0 0 1 1 1 true,H1.new (.blk 0 3 [I v])):=(KR (by decide)).trans (jw rfl rfl rfl);obtain⟨x',H2,a1,a2,a3⟩:=(O.new (.blk 0 3 [I v])).step (n:=i) (k:=1) (e:=3) (by_:=8) (y:=.sl H1.next 0 0 1 1 1 true) (new:=[I v]) (by rw [nNew];omega) (by rw [bNew,b1];omega) (by decide) (by rw [zaF,zat,MK h0 h1];omega) (jy rfl) rfl (by unfold most;omega) (by unfold most;omega);have O2:Own (H.next+1) H2 x' 1 (((c.first line).take (i+1)).map I):=by
     rw [List.take_add_one,hg,zbg];rw [hv] at a2;exact a2
    obtain⟨H3,y,r1,r2⟩:=ih (i+1) (by omega) H2 x' (by have:=a3.next;rw [nNew] at this;omega) (by rw [a3.base,bNew,b1]) (by rw [a3.low _ (by omega),aP (by omega),g1]) O2 (by have:=a3.next;rw [nNew] at this;omega);refine⟨H3,y,?_,r2⟩;simp -implicitDefEqProofs only [xq_,BK,eb,a1,aW,h6,h7,r1]
   rw [Rx];by_cases hc:line*c.words+i < c.init.length
   ·have e2:=(jh H1 c.init).ix (k:=.i64) (i:=line*c.words+i) (by omega) hc;have e3:=(jh H1 c.init).ld (i:=(line*c.words+i).toNat) (by omega);have e4:(c.init.map I)[(line*c.words+i).toNat]?=some (I (c.init.getD ((line*c.words).toNat+i) 0)):=by
     have:(line*c.words+i).toNat=(line*c.words).toNat+i:=by omega
     rw [this,zaE,zab (by omega)];simp [List.getD,zab (show(line*c.words).toNat+i < c.init.length by omega)]
    rw [e4] at e3;obtain⟨H2,y,r1,r2⟩:=tail _ rfl;refine⟨H2,y,?_,r2⟩;simp -implicitDefEqProofs only [xq_,l2,hn,gG,w,aW,w2,l7,e1,hc,e2,e3,r1]
   ·obtain⟨H2,y,r1,r2⟩:=tail 0 (by
     have:c.init.length<=(line*c.words).toNat+i:=by omega
     simp [List.getD,zaG this])
    refine⟨H2,y,?_,r2⟩;simp -implicitDefEqProofs only [xq_,l2,hn,gG,w,aW,w2,l7,e1,hc,r1]
 obtain⟨H2,y,r1,r2⟩:=key c.words.toNat 0 (by omega) H0 zN (by show H.next<=H.next+1;omega) rfl g0 (.inl ⟨rfl,by simp⟩) (zac _);refine fO rfl rfl (akf _ _ _ _ (r:=(y,H2)) ?_) ?_
 ·have n0:¬line < 0:=by omega
  have n1:¬c.lines<=line:=by omega
  have l1:c.av[1]?=some (I c.lines):=rfl;simp -implicitDefEqProofs only [Nat.reduceLT,xq_,hq_,adS,aA (dG c),n0,n1,l1];exact r1
 ·rw [tY (Jl h h0 h1)];have r3:Own H.next H2 y 1 ((c.first line).map I):=by
   rcases r2 with r2 | ⟨r,g,off,n,cap,ex,ty,all,a0,a1,a2⟩
   ·exact .inl r2
   ·exact .inr ⟨r,g,off,n,cap,ex,ty,all,a0,by omega,a2⟩
  exact zx r3 (by decide) (by simp) (λy hy=> uQ _ y hy _ _) (λe=> Jl h h0 h1 (zao e))
theorem Yl(H:aj)(sets ways:Int)(h:1<=sets)(h':1<=ways):∃H' q,cl 124 [I sets,I ways] H=some (.ref q 0 0,H')/\Made H H' (upd nil0 q (yR ⟨[],sets,ways,0⟩ [])):=by
 refine⟨_,H.next,aN rfl rfl (ajz _ _ _ _ (r:=(_,H.new (.blk 0 264 [I sets,I ways,zI,zN]))) ?_),jH rfl rfl λi c x hc hx=> ?_⟩
 ·have e:max sets (1:Int)=sets:=by omega
  have e':max ways (1:Int)=ways:=by omega
  simp -implicitDefEqProofs only [Nat.reduceLT,Nat.reduceAdd,Nat.reduceLeDiff,setAt,xq_,hq_,adh,Ij,e,e',ahB,gJ,dL,acu,aA]
 ·match i with
  | 0=> left;cases hc;cases hx;rfl
  | 1=> left;cases hc;cases hx;rfl
  | 2=> left;cases hc;cases hx;rfl
  | 3=> right;cases hc;cases hx;exact⟨rfl,6,rfl⟩
  | i+4=> cases hc
theorem afO(H:aj)(c:Cfg)(h:c.ok=true):∃H' f,cl 80 [.agg c.av] H=some (.ref f 0 0,H')/\Made H H' (upd nil0 f (TV c (List.replicate (4*c.nodes.toNat) []))):=by
 have Bd:=pI h;have hn:=Bd.nodes;let H1:=H.new (.blk 0 40 c.av);let H2:=H1.new (.blk 0 322 (bG [zN,zN,zN,zN] c.nodes.toNat));let S:AV:=.sl (H.next+1) 0 0 4 c.nodes.toNat c.nodes.toNat true;let H3:=H2.new (.blk 0 212 (c.av++[S]));have e1:=V6 (e:=322) (m:=4) (by_:=96) (z:=[zN,zN,zN,zN]) (n:=c.nodes) (H:=H1) rfl rfl (by omega) (by omega) (by decide);have l0:c.av[0]?=some (I c.nodes):=rfl;have zl:∀n,(bG [zN,zN,zN,zN] n).length=n*4/\∀(j:Nat) x,(bG [zN,zN,zN,zN] n)[j]?=some x->x=zN:=by
  intro n
  induction n with
  | zero=> exact⟨rfl,λj x hx=> by simp [bG] at hx⟩
  | succ n ih=>
   refine⟨by rw [bG,zan,ih.1];simp;omega,λj x hx=> ?_⟩;rw [bG] at hx;have:=zaq hx;rcases za1.1 this with hm | hm
   ·simpa using hm
   ·obtain⟨k,hk,hk2⟩:=List.getElem_of_mem hm;exact ih.2 k x (by rw [zab hk,hk2])
 refine⟨H3,H.next+2,aN rfl rfl (anD _ _ _ (r:=(_,H3)) ?_),⟨by show H.next<=H.next+3;omega,rfl,λr hr=> ?_,by show H.next<=H.next+3;omega,λr=> if r=H.next+2 then some (r,0,0,0) else if r=H.next+1 then some (H.next+2,9,0,0) else none,λq cs hq=> ?_⟩⟩
 ·have e:bd 212 [(0,.agg c.av),(1,S)]=some (.agg (c.av++[S])):=by
   simp -implicitDefEqProofs only [xq_,ahz,gJ,dL,acr,Cfg.av,dD];rfl
  have ea:(c.av++[S]).all AV.aG=true:=by rw [za7,dG];rfl
  have e0:=iH (H:=H1) (r:=H.next) (c:=c) (aJ rfl);have s1:H1.next=H.next+1:=rfl
  simp only [s1] at e1;simp only [H1] at e1 e0;simp -implicitDefEqProofs only [Nat.reduceLT,xq_,hq_,aiO,aA (dG c),l0,e1,e,aA ea,S];rfl
 ·simp only [H3,H2,H1];rw [aP (by simp only [nNew];omega),aP (by simp only [nNew];omega),aP hr]
 ·unfold upd at hq;split at hq
  ·rename_i e;subst e;cases hq;refine⟨by simp,by omega,by show _ < H.next+3;omega,rX (ty:=212) (xs:=c.av++[S]) (aJ rfl) (by decide),212,c.av++[S],aJ rfl,by simp [TV,Cfg.av],by rw [za7,dG];rfl,λi cc x hc hx=> ?_⟩;rcases zaP i 8 with hi | hi
   ·rw [TV,zaJ (by simp [Cfg.av];omega),zaE] at hc;rw [zaJ (by simp [Cfg.av];omega)] at hx;rw [hx] at hc;cases hc;exact rfl
   ·have hi8:i=8:=by
     have:=(zaf.1 hx).1;simp [Cfg.av] at this;omega
    subst hi8;cases hc;cases hx;refine⟨bG [zN,zN,zN,zN] c.nodes.toNat,.inr ⟨H.next+1,0,0,c.nodes.toNat,c.nodes.toNat,true,322,_,rfl,by simp,by omega,by show _ < H.next+3;omega,zac _,by simp only [H3];rw [aP (by show _ < H.next+2;omega)];exact aJ rfl,by rw [(zl _).1];omega,uH rfl _,?_⟩,by rw [(zl _).1,zb2];omega,λj cells y hj hy=> ?_⟩
    ·rw [zaR,zas (by rw [(zl _).1];omega)]
    ·rw [zbl] at hj;split at hj
     ·cases hj;exact .inl ⟨(zl _).2 _ _ hy,rfl⟩
     ·cases hj
  ·cases hq
def iJ(c:Cfg)(n:Nat):List Row:=(List.range n).map λ(i:Nat)=> (⟨0,-1,c.first (i:Int)⟩:Row)
theorem PI(c:Cfg)(n:Nat):iJ c (n+1)=iJ c n++[⟨0,-1,c.first n⟩]:=by
 simp [iJ,zb4]
theorem Ym(H:aj)(hb:H.base<=H.next)(c:Cfg)(h:c.ok=true)(me:Int):∃H' q,cl 125 [.agg c.av,I me] H=some (.ref q 0 0,H')/\Made H H' (upd nil0 q (mJ c me ((dY.new c).rows.flatMap Row.av) ⟨[],[]⟩)):=by
 have Bd:=pI h;have hl:=Bd.lines;let H1:=H.new (.blk 0 40 c.av);let xs:List AV:=c.av++[I me,zN,zN,zN]
 let H2:=H1.new (.blk 0 271 xs);let f:=H.next+1
 have ax:xs.all AV.aG=true:=by simp only [xs,za7,dG];rfl
 have M0:Made H1 H2 (upd nil0 f (mJ c me [] ⟨[],[]⟩)):=jH ax (by simp [xs,mJ]) λi cc x hc hx=> by
  rcases zaP i 8 with hi | hi
  ·left;rw [mJ,zaJ (by simp [Cfg.av];omega),zaE] at hc;rw [zaJ (by simp [Cfg.av];omega)] at hx;rw [hx] at hc;exact(za2 hc).symm
  ·obtain⟨j,rfl⟩:∃j,i=8+j:=⟨i - 8,by omega⟩
   match j with
   | 0=> left;cases hc;cases hx;rfl
   | 1=> right;cases hc;cases hx;exact⟨rfl,3,rfl⟩
   | 2=> right;cases hc;cases hx;exact⟨rfl,2,rfl⟩
   | 3=> right;cases hc;cases hx;exact⟨rfl,3,rfl⟩
   | j+4=> exfalso;have:=(zaf.1 hx).1;simp [xs,Cfg.av] at this;omega
 have key:∀k i,i+k=c.lines.toNat->∀Hi,Made H1 Hi (upd nil0 f (mJ c me ((iJ c i).flatMap Row.av) ⟨[],[]⟩))->
   ∃H',Bl cl [.ref H.next 0 0,.ref f 0 0,I i] Hi=some (.ref f 0 0,H')/\Made H1 H' (upd nil0 f (mJ c me ((iJ c c.lines.toNat).flatMap Row.av) ⟨[],[]⟩)):=by
  intro k
  induction k with
  | zero=>
   intro i hi Hi M;have h1:¬(i:Int) < c.lines:=by omega
   have g:Hi.get H.next=.blk 0 40 c.av:=by rw [M.same _ (by show H.next < H.next+1;omega)];exact aJ rfl
   have l1:ld (.ref H.next 0 1) Hi=some (I c.lines,Hi):=by rw [dJ g];rfl
   rw [Rh];refine⟨Hi,?_,by rw [show c.lines.toNat=i by omega];exact M⟩;simp -implicitDefEqProofs only [Int.reduceNeg,xq_,l1,h1]
  | succ k ih=>
   intro i hi Hi M;have h1:(i:Int) < c.lines:=by omega
   have h6:(i:Int)+1=((i+1:Nat):Int):=by omega
   have h7:=wrap_i64 (a:=((i+1:Nat):Int)) (by omega) (by omega);have n1:H1.next=H.next+1:=rfl
   have g:Hi.get H.next=.blk 0 40 c.av:=by rw [M.same _ (by omega)];exact aJ rfl
   have l1:ld (.ref H.next 0 1) Hi=some (I c.lines,Hi):=by rw [dJ g];rfl
   have l8:=iH g;obtain⟨x,hx,cx⟩:=M.good.seq upd_same (i:=9) rfl;have e1:=Um Hi.guard c h i (by omega) h1;let r:Row:=⟨0,-1,c.first i⟩
   have hlen:((iJ c i).flatMap Row.av).length=i*3:=by rw [bn yN];simp [iJ]
   have eb:=jw (e:=272) (m:=3) (z:=[zI,zI,zN]) (v:=.agg r.av) (H:=Hi) rfl rfl (Iq r);simp only [dD] at eb;obtain⟨x',He,Hf,t1,t2,t3,t4⟩:=(M.good.new (.blk 0 272 r.av)).append (e:=272) (by_:=40) (by rw [bNew,M.base,n1];simp only [H1,bNew];omega) upd_same (i:=9) rfl (by decide) hlen (cx.new _) (jy (ex:=true) (n:=1) (m:=3) (l:=r.av) rfl) (Iq r) (by unfold most;omega) (by unfold most;omega);have Mf:Made H1 Hf (upd nil0 f (mJ c me ((iJ c (i+1)).flatMap Row.av) ⟨[],[]⟩)):=by
    refine((M.new _).step t3 t4).as ?_;rw [nI,PI,zbA]
    congr 1
   obtain⟨H',r1,r2⟩:=ih (i+1) (by omega) Hf Mf;refine⟨H',?_,r2⟩;rw [Rh];have er:bd 272 [(0,I 0),(1,I (-1)),(2,dat (c.first i))]=some (.agg r.av):=by
    simp -implicitDefEqProofs only [Int.reduceNeg,xq_,ahD,gJ,dL,acw,Dw];rfl
   simp -implicitDefEqProofs only [Int.reduceNeg,Nat.reduceLeDiff,xq_,hq_,l1,h1,hx,l8,e1,er,ahc,zbd,eb,t1,t2,aW,h6,h7,r1]
 obtain⟨H',r1,r2⟩:=key c.lines.toNat 0 (by omega) H2 M0;refine⟨H',f,aN rfl rfl (ajA _ _ _ _ (r:=(_,H')) ?_),r2.vP⟩;have e:bd 271 [(0,.agg c.av),(1,I me)]=some (.agg xs):=by
  simp -implicitDefEqProofs only [xq_,ahC,gJ,dL,acv,Cfg.av,dD];rfl
 have e0:=iH (H:=H1) (r:=H.next) (c:=c) (aJ rfl);simp only [H1] at e0;simp -implicitDefEqProofs only [Nat.reduceLT,xq_,hq_,adk,aA (dG c),e0,e,aA ax];exact r1
theorem afP {H:aj}{v:AV}{l:List Opn}(hv:aF H v 3 l.length (l.flatMap Opn.av))(hl:l.length < 1000000):
  ∃y H',app 86 3 24 zN v H=some (y,H')/\Own H.next H' y 3 (l.flatMap Opn.av)/\Step H.next H H':=by
 have O:Own H.next H zN 3 []:=.inl ⟨rfl,rfl⟩
 have hz:most=most:=rfl;obtain⟨c1,c2⟩:=hv.sV;by_cases h0:l=[]
 ·subst h0;refine⟨zN,H,?_,.inl ⟨rfl,rfl⟩,Step.refl _ _⟩;simp only [app,c1,c2,bQ];rfl
 ·have hn:l.length≠0:=λe=> h0 (zao e);refine⟨_,_,Iu hv (Bc lq l) hn (by unfold most;omega) (by unfold most;omega),.inr ⟨H.next,0,0,l.length,l.length,false,86+fA,l.flatMap Opn.av,rfl,zac _,by rw [nNew];omega,zac _,aJ rfl,by rw [bn dh];omega,Bc lq l,?_⟩,Step.new _ (zac _)⟩;rw [zaR,zas (by rw [bn dh];exact zac _)]
theorem aa0 {H H1:aj}{ty:TypeId}{xs:List AV}{cs:List Cell}{i0 m0:Nat}{l0:List AV}{y:AV}(s:Step H.next H H1)(hc:xs.all AV.aG=true)(hl:xs.length=cs.length)(O:Own H.next H1 y m0 l0)
  (h:∀(i:Nat) (c:Cell) (x:AV),cs[i]?=some c->xs[i]?=some x->c=.av x∨(x=zN/\∃m,c=.seq m [])∨(i=i0/\x=y/\c=.seq m0 l0)) (ht:ty < fA:=by decide):
  Made H (H1.new (.blk 0 ty xs)) (upd nil0 H1.next cs):=by
 have n1:=s.next
 refine⟨by rw [nNew];omega,s.base,λr hr=> by rw [aP (by omega),s.low r hr],by rw [nNew];omega,λr=> if r=H1.next then some (r,0,0,0) else if nameOf y=some r then some (H1.next,i0+1,0,0) else none,λq cs' hq=> ?_⟩;unfold upd at hq;split at hq
 ·rename_i e;subst e;cases hq;refine⟨by simp,n1,by rw [nNew];omega,rX (xs:=xs) (aJ rfl) ht,ty,xs,aJ rfl,hl,hc,λi c x hci hx=> ?_⟩;rcases h i c x hci hx with rfl | ⟨rfl,m,rfl⟩ | ⟨rfl,rfl,rfl⟩
  ·exact rfl
  ·exact .inl ⟨rfl,rfl⟩
  ·rcases O with O | ⟨r,g,off,n,cap,ex,ty',all,rfl,k2,k3,k4,k5,k6⟩
   ·exact .inl O
   ·exact .inr ⟨r,g,off,n,cap,ex,ty',all,rfl,by simp only [nameOf];rw [if_neg (by omega),if_pos trivial],k2,by rw [nNew];omega,k4,by rw [aP k3];exact k5,k6⟩
 ·cases hq
theorem aa1(H:aj)(c:Cfg)(h:c.ok=true)(me:Int)(l:List Opn)(hl:l.length < 1000000){x:AV}(hx:aF H x 3 l.length (l.flatMap Opn.av)):
  ∃H' a g',cl 81 [.agg c.av,I me,x] H=some (.ref (a 0) 0 0,H')/\Made H H' g'/\lC g' a c me (.new c l):=by
 have Bd:=pI h;let H1:=H.new (.blk 0 40 c.av);obtain⟨H2',q1,e1,M1⟩:=Yl H1.guard c.sets c.ways Bd.sets.1 Bd.ways.1;obtain⟨H2,e1,M1⟩:=drawn e1 M1;obtain⟨H3',q2,e2,M2⟩:=Ym H2.guard (zac _) c h me;obtain⟨H3,e2,M2⟩:=drawn e2 M2;have hx3:aF H3 x 3 l.length (l.flatMap Opn.av):=((hx.new (.blk 0 40 c.av)).gV M1.next λr _ hr=> M1.same r hr).gV M2.next λr _ hr=> M2.same r hr
 obtain⟨y,H4,e3,O,s4⟩:=afP hx3 hl;let a:=six H4.next q1 q2 0 0 0
 let xs:List AV:=c.av++[I me,.ref q1 0 0,.ref q2 0 0,y,B false,zN,B false,zI,zI,zI,zI,zI,zI,zN,zI,zI,I 0]
 have hy:One y:=by
  rcases O with⟨rfl,_⟩ | ⟨r,g,off,n,cap,ex,ty',all,rfl,_⟩
  ·exact mD
  ·exact pW
 have ax:xs.all AV.aG=true:=by simp only [xs,za7,dG,List.all_cons,hy.2];rfl
 have M3:Made H3 (H4.new (.blk 0 219 xs)) (upd nil0 H4.next (Aa a c me (.new c l) [zI,zI,zI,zI,zI,zI,zN,zI,zI])):=by
  refine aa0 (i0:=11) (m0:=3) (l0:=l.flatMap Opn.av) (y:=y) s4 ax (by simp [xs,Aa]) O λi cc x hc hx=> ?_;rcases zaP i 8 with hi | hi
  ·left;rw [Aa,List.append_assoc,List.append_assoc,zaJ (by simp [Cfg.av];omega),zaE] at hc;rw [zaJ (by simp [Cfg.av];omega)] at hx;rw [hx] at hc;exact(za2 hc).symm
  ·obtain⟨j,rfl⟩:∃j,i=8+j:=⟨i - 8,by omega⟩
   match j with
   | 0 | 1 | 2 | 4 | 6 | 7 | 8 | 9 | 10 | 11 | 12 | 13 | 14 | 15 | 16=> left;cases hc;cases hx;rfl
   | 3=> right;right;cases hc;cases hx;exact⟨rfl,rfl,rfl⟩
   | 5=> right;left;cases hc;cases hx;exact⟨rfl,1,rfl⟩
   | j+17=> exfalso;have:=(zaf.1 hx).1;simp [xs,Cfg.av] at this;omega
 have g1:H1.get H.next=.blk 0 40 c.av:=aJ rfl
 have l1:H.next < H1.next:=by simp only [H1,nNew];omega
 have l2:H.next < H2.next:=zax l1 M1.next
 have g2:H2.get H.next=.blk 0 40 c.av:=by rw [M1.same _ l1,g1]
 have g3:H3.get H.next=.blk 0 40 c.av:=by rw [M2.same _ l2,g2]
 have l3:H.next < H3.next:=zax l2 M2.next
 have g4:H4.get H.next=H3.get H.next:=s4.low _ l3
 have b1:=iH g1;have b2:=iH g2;have ec:∀{β:Type} (k:Option β),ck (aS (.ref H.next 0 0)) H3 H4 k=k:=λk=> Ul λr hr=> by cases hr;exact g4
 have G12:=M1.good.merge M2;refine⟨_,a,_,aN rfl rfl (anF _ _ _ _ _ (r:=(_,H4.new (.blk 0 219 xs))) ?_),((M1.trans M2).trans M3).vP,?_⟩
 ·have e:bd 219 [(0,.agg c.av),(1,I me),(2,.ref q1 0 0),(3,.ref q2 0 0),(4,y)]=some (.agg xs):=by
   simp -implicitDefEqProofs only [xq_,ahA,gJ,dL,acs,Cfg.av,dD,hy.1];rfl
  have l3:c.av[3]?=some (I c.sets):=rfl;have l4:c.av[4]?=some (I c.ways):=rfl;simp only [H1] at e1 b1;simp -implicitDefEqProofs only [Nat.reduceLT,xq_,hq_,aiP,aA (dG c),b1,l3,l4,e1,b2,e2,e3,e,aA ax,ec];rfl
 ·have z:wF (amo (cup H3.next (cup H2.next (upd nil0 q1 (yR ⟨[],c.sets,c.ways,0⟩ [])) (upd nil0 q2 (mJ c me ((dY.new c).rows.flatMap Row.av) ⟨[],[]⟩))) (upd nil0 H4.next (Aa a c me (.new c l) [zI,zI,zI,zI,zI,zI,zN,zI,zI])))) (dY.new c).rows ((dY.new c).rows.flatMap Row.av):=wF.of λr _=> aeV r;exact⟨⟨[zI,zI,zI,zI,zI,zI,zN,zI,zI],⟨zN,.inl (by simp [dw.new,bC.zero,dat,dP]),by simp [dw.new,bC.zero,bC.avx]⟩,jS M3.good upd_same (zac _)⟩,⟨[],.nil,iQ G12 (iQ M1.good upd_same rfl) rfl⟩,⟨_,z,iQ G12 (jS M2.good upd_same (zac _)) rfl⟩⟩
theorem lC.aoI {g:Store}{a:Nat->Nat}{c:Cfg}{me:Int}{n:dw}(h:lC g a c me n){s:Nat}(hs:s < 3):∃l,g (a s)=some l:=by
 obtain⟨⟨_,_,h0⟩,⟨_,_,h1⟩,⟨_,_,h2⟩⟩:=h
 match s,hs with
 | 0,_=> exact⟨_,h0⟩
 | 1,_=> exact⟨_,h1⟩
 | 2,_=> exact⟨_,h2⟩
theorem lC.ext {g g':Store}{a:Nat->Nat}{c:Cfg}{me:Int}{n:dw}(h:lC g a c me n)(hd:∀q cs,g q=some cs->¬TU cs->g' q=some cs)(hg:∀s,s < 3->g' (a s)=g (a s)):lC g' a c me n:=by
 obtain⟨⟨d,⟨x,d1,d2⟩,h0⟩,⟨cells,k,h1⟩,⟨rows,r,h2⟩⟩:=h;exact⟨⟨d,⟨x,d1.sub hd,d2⟩,by rw [hg 0 (by omega),h0]⟩,⟨cells,k.mono λe cs _ ⟨x,e1,e2⟩=> ⟨x,e1.sub hd,e2⟩,by rw [hg 1 (by omega),h1]⟩,⟨rows,r.mono λe cs _ ⟨x,e1,e2⟩=> ⟨x,e1.sub hd,e2⟩,by rw [hg 2 (by omega),h2]⟩⟩
theorem lC.inj {g:Store}{a:Nat->Nat}{c:Cfg}{me:Int}{n:dw}(h:lC g a c me n){s t:Nat}(hs:s < 3)(ht:t < 3)(e:a s=a t):s=t:=by
 obtain⟨⟨d,⟨x,_,rfl⟩,h0⟩,⟨_,_,h1⟩,⟨_,_,h2⟩⟩:=h;have hh:(g (a s)).map List.length=(g (a t)).map List.length:=by rw [e]
 match s,hs,t,ht with
 | 0,_,0,_ | 1,_,1,_ | 2,_,2,_=> rfl
 | 0,_,1,_ | 0,_,2,_ | 1,_,0,_ | 1,_,2,_ | 2,_,0,_ | 2,_,1,_=> simp [h0,h1,h2,Aa,yR,mJ,bC.avx,Cfg.av] at hh
theorem lC.lens {g:Store}{a:Nat->Nat}{c:Cfg}{me:Int}{n:dw}(h:lC g a c me n){s:Nat}(hs:s < 3):∃l,g (a s)=some l/\TU l/\(l.length=25∨l.length=4∨l.length=12):=by
 obtain⟨⟨d,⟨x,_,rfl⟩,h0⟩,⟨_,_,h1⟩,⟨_,_,h2⟩⟩:=h
 match s,hs with
 | 0,_=> exact⟨_,h0,⟨.av (.ref (a 1) 0 0),by simp [Aa],λn e=> by cases e⟩,by left;simp [Aa,bC.avx,Cfg.av]⟩
 | 1,_=> exact⟨_,h1,⟨.seq 6 _,by simp [yR];rfl,λn e=> by cases e⟩,by right;left;simp [yR]⟩
 | 2,_=> exact⟨_,h2,⟨.seq 3 _,by simp [mJ];left;rfl,λn e=> by cases e⟩,by right;right;simp [mJ,Cfg.av]⟩
theorem Un {f:Nat}{N:Nat->Nat->Nat}{c:Cfg}{n:Nat}{ev:List Evn}:TU (nK f N c n ev):=⟨.av (.ref f 0 0),by simp [nK],λn e=> by cases e⟩
theorem PK(H:aj)(hb:H.base<=H.next)(c:Cfg)(h:c.ok=true){x:AV}{ps:List (List Opn)}(hx:RU H x ps)(hp:c.pz ps=true):
  ∃H' q f N g',cl 44 [.agg c.av,x] H=some (.tup [.ref q 0 0,B true],H')/\Made H H' g'/\DN g' q f N (.new c ps):=by
 have Bd:=pI h;obtain⟨hp1,hp2⟩:=BU hp;have hn:=Bd.nodes;let H1:=H.new (.blk 0 40 c.av);have n1:H1.next=H.next+1:=rfl
 have g1:H1.get H.next=.blk 0 40 c.av:=aJ rfl
 have b1:=iH g1;have e1:=Yi H1 c;rw [h] at e1;have e2:=afN H1 c h (hx.gV (H':=H1) (by omega) λr hr=> aP hr) (by omega) λl hl=> by have:=hp2 l hl;omega
 rw [hp] at e2;obtain⟨H2',f,e4,M1⟩:=afO H1.guard c h;obtain⟨H2,e4,M1⟩:=drawn e4 M1;let K:=H2.next
 let xs:List AV:=c.av++[.ref f 0 0,zN,zN]
 have hall:xs.all AV.aG=true:=by simp only [xs,za7,dG];rfl
 have bx:∀H':aj,(∀r,r < H1.next->H'.get r=H1.get r)->H'.get H.next=.blk 0 40 c.av:=λH' hs=> by rw [hs _ (by omega),g1]
 have M2:Made H2 (H2.new (.blk 0 159 xs)) (upd nil0 K (nK f (λ_ _=> 0) c 0 [])):=by
  refine jH hall (by simp [xs,nK]) λi cc y hc hy=> ?_;rcases zaP i 8 with hi | hi
  ·left;rw [nK,zaJ (by simp [Cfg.av];omega),zaE] at hc;rw [zaJ (by simp [Cfg.av];omega)] at hy;rw [hy] at hc;exact(za2 hc).symm
  ·obtain⟨j,rfl⟩:∃j,i=8+j:=⟨i - 8,by omega⟩
   match j with
   | 0=> left;cases hc;cases hy;rfl
   | 1=> right;cases hc;cases hy;exact⟨rfl,1,rfl⟩
   | 2=> right;cases hc;cases hy;exact⟨rfl,4,rfl⟩
   | j+3=> exfalso;have:=(zaf.1 hy).1;simp [xs,Cfg.av] at this;omega
 have M0:=M1.add M2;let g0:=upd (upd nil0 f (TV c (List.replicate (4*c.nodes.toNat) []))) K (nK f (λ_ _=> 0) c 0 []);have key:∀k i,i+k=ps.length->∀Hi gi N,Made H1 Hi gi->gi K=some (nK f N c i [])->(∀q,q < K->gi q=g0 q)->(∀(j:Nat) l,j < i->ps[j]?=some l->lC gi (N j) c j (.new c l))->amr N i->
   ∃H' g' N',IW cl [x,.ref H.next 0 0,.ref K 0 0,I i] Hi=some (.tup [.ref K 0 0,B true],H')/\Made H1 H' g'/\g' K=some (nK f N' c ps.length [])/\(∀q,q < K->g' q=g0 q)/\(∀(j:Nat) l,j < ps.length->ps[j]?=some l->lC g' (N' j) c j (.new c l))/\amr N' ps.length:=by
  intro k
  induction k with
  | zero=>
   intro i hi Hi gi N M hm hlow hnd hj;have l0:ld (.ref H.next 0 0) Hi=some (I c.nodes,Hi):=by rw [dJ (bx Hi M.same)];rfl
   have h1:¬(i:Int) < c.nodes:=by omega
   have hi':ps.length=i:=by omega
   rw [WX];refine⟨Hi,gi,N,?_,M,by rw [hi'];exact hm,hlow,by rw [hi'];exact hnd,by rw [hi'];exact hj⟩;simp -implicitDefEqProofs only [xq_,l0,h1]
  | succ k ih=>
   intro i hi Hi gi N M hm hlow hnd hj;have l0:ld (.ref H.next 0 0) Hi=some (I c.nodes,Hi):=by rw [dJ (bx Hi M.same)];rfl
   have h1:(i:Int) < c.nodes:=by omega
   have h6:(i:Int)+1=((i+1:Nat):Int):=by omega
   have h7:=wrap_i64 (a:=((i+1:Nat):Int)) (by omega) (by omega);have hxi:=hx.gV (H':=Hi) (zay (by omega) M.next) λr hr=> by rw [M.same r (by omega)];exact aP hr
   obtain⟨cells,x1,x2⟩:=hxi;have hcl:cells.length=ps.length:=by have:=x1.1;omega
   have s1:=x1.ix (k:=.i64) (i:=(i:Int)) (by omega) (by omega);rw [zar] at s1;have s2:=x1.ld (i:=i) (by omega);obtain⟨v,hv⟩:∃v,cells[i]?=some v:=⟨_,zab (by omega)⟩
   obtain⟨l,hl⟩:∃l,ps[i]?=some l:=⟨_,zab (by omega)⟩
   rw [hv] at s2;obtain⟨v1,v2⟩:=x2 i v l hv hl;have s4:=iH (bx Hi M.same);obtain⟨y,hy,cy⟩:=M.good.seq hm (i:=9) (m:=1) (l:=lX N i) rfl;obtain⟨Ha',a,ga,a1,Ma,Ia⟩:=aa1 Hi.guard c h i l (by have:=hp2 l (zaq hl);omega) v1.guard;obtain⟨Ha,a1,Ma⟩:=drawn a1 Ma;have Na:=M.trans Ma;let ga':=cup Hi.next gi ga
   have hK:=M.good.lt hm;have aea:∀q,q < Hi.next->ga' q=gi q:=λq hq=> by simp only [ga',cup,hq,if_true]
   have an3:∀q cs,ga q=some cs->ga' q=some cs:=λq cs hq=> by
    have:=(Ma.lt hq).1;simp only [ga',cup];rw [if_neg (by omega),hq]
   have hma:ga' K=some (nK f N c i []):=by rw [aea K hK,hm]
   let o:dQ:=.blk 0 160 [.ref (a 0) 0 0];have hnl:(lX N i).length=i*1:=by simp [lX]
   obtain⟨y',He,Hf,t1,t2,t3,t4⟩:=(Na.good.new o).append (e:=160) (by_:=8) (by rw [bNew,Na.base,n1];simp only [H1,bNew];omega) hma (i:=9) (l:=lX N i) rfl (by decide) hnl ((cy.ext Ma.next Ma.same).new o) (jy (ex:=true) (n:=1) (m:=1) (l:=[.ref (a 0) 0 0]) rfl) rfl (by unfold most;omega) (by unfold most;omega);let N':Nat->Nat->Nat:=λj=> if j=i then a else N j
   have hN:∀j,j < i->N' j=N j:=λj hj=> by simp only [N'];rw [if_neg (by omega)]
   have hNi:N' i=a:=by simp only [N',if_true]
   have Mf:Made H1 Hf (upd ga' K (nK f N' c (i+1) [])):=by
    refine((Na.new o).step t3 t4).as ?_
    congr 1
    show nK f N' c (i+1) []=_;have:=Ei (N:=N) (N':=N') hN;simp only [lX] at this;simp only [nK];rw [this,hNi];rfl
   have dat:∀q cs,ga' q=some cs->¬TU cs->upd ga' K (nK f N' c (i+1) []) q=some cs:=λq cs hq hd=> by
    rw [upd_ne];exact hq;intro e;subst e;rw [hma] at hq;cases hq;exact hd Un
   have hal:∀s,s < 3->Hi.next<=a s/\ga' (a s)=ga (a s):=λs hs=> by
    obtain⟨l,hg⟩:=Ia.aoI hs;have:=(Ma.lt hg).1;exact⟨this,by simp only [ga',cup];rw [if_neg (by omega)]⟩
   have hNl:∀j,j < i->∀s,s < 3->N j s < Hi.next:=λj hji s hs=> by
    obtain⟨lj,hlj⟩:∃l,ps[j]?=some l:=⟨_,zab (by omega)⟩
    obtain⟨l,hg⟩:=(hnd j lj hji hlj).aoI hs;exact M.good.lt hg
   obtain⟨H',g',N'',r1,r2⟩:=ih (i+1) (by omega) Hf _ N' Mf upd_same (λq hq=> by
    rw [upd_ne (by omega),aea q (by omega),hlow q hq]) (λj lj hj1 hlj=> by
    by_cases hji:j=i
    ·subst hji;rw [hl] at hlj;cases hlj;rw [hNi];exact Ia.ext (λq cs hq hd=> dat q cs (an3 q cs hq) hd) λs hs=> by
      obtain⟨h1,h2⟩:=hal s hs;rw [upd_ne (by omega),h2]
    ·rw [hN j (by omega)];refine(hnd j lj (by omega) hlj).ext (λq cs hq hd=> dat q cs (by rw [aea q (M.good.lt hq),hq]) hd) λs hs=> ?_;have hlt:=hNl j (by omega) s hs;have hne:N j s≠K:=λe=> by
      obtain⟨l',hg,_,hl'⟩:=(hnd j lj (by omega) hlj).lens hs;rw [e,hm] at hg;cases hg;simp [nK,Cfg.av] at hl'
     rw [upd_ne hne,aea _ hlt]) (λj k s t hj1 hk1 hs ht e=> by
    by_cases hji:j=i
    ·by_cases hki:k=i
     ·subst hji;subst hki;rw [hNi] at e;exact⟨rfl,Ia.inj hs ht e⟩
     ·subst hji;rw [hNi,hN k (by omega)] at e;have:=(hal s hs).1;have:=hNl k (by omega) t ht;omega
    ·by_cases hki:k=i
     ·subst hki;rw [hNi,hN j (by omega)] at e;have:=(hal t ht).1;have:=hNl j (by omega) s hs;omega
     ·rw [hN j (by omega),hN k (by omega)] at e;exact hj j k s t (by omega) (by omega) hs ht e)
   refine⟨H',g',N'',?_,r2⟩;rw [WX];have eb:=jw (e:=160) (m:=1) (z:=[zP]) (v:=.ref (a 0) 0 0) (H:=Ha) rfl rfl rfl;have ec:(AV.ref (a 0) 0 0).cells=[.ref (a 0) 0 0]:=rfl;rw [ec] at eb;simp only [o] at t1 t2;simp -implicitDefEqProofs only [Nat.reduceLeDiff,xq_,hq_,l0,h1,s1,s2,s4,hy,a1,ahb,zbd,eb,t1,t2,aW,h6,h7,r1]
 have hf:=M1.lt upd_same;obtain⟨H',g',N,r1,r2,r3,r4,r5,r6⟩:=key ps.length 0 (by omega) _ g0 (λ_ _=> 0) M0 upd_same (λq hq=> rfl) (λj l hj=> by omega) (λi j s t hi=> by omega);refine⟨H',K,f,N,g',aN rfl rfl (am4 _ _ _ _ (r:=(_,H')) ?_),r2.vP,?_⟩
 ·have b2:=iH (bx H2 M1.same);have em:bd 159 [(0,.agg c.av),(1,.ref f 0 0)]=some (.agg xs):=by
   simp -implicitDefEqProofs only [xq_,ahu,gJ,dL,aci,Cfg.av,dD];rfl
  simp only [H1] at b1 e1 e2 e4;simp -implicitDefEqProofs only [Nat.reduceLT,xq_,hq_,ait,aA (dG c),b1,e1,e2,zae,e4,em,aA hall];exact r1
 ·have gf:g' f=some (TV c (List.replicate (4*c.nodes.toNat) [])):=by
   rw [r4 f hf.2];simp only [g0];rw [upd_ne (by omega),upd_same]
  refine⟨by rw [r3];simp [eG.new],⟨_,gf,by simp [eG.new],λi l cells hl hc=> ?_⟩,λi n hi=> ?_,by simp only [eG.new,zaF];exact r6⟩
  ·have h1:l=[]:=by
    have hm:=zaq hl;simp only [eG.new,za6] at hm;obtain⟨p,hp,hl2⟩:=hm;rw [List.eq_of_mem_replicate hp] at hl2
    simpa [acR,Port.zero] using hl2
   rw [zbl] at hc;split at hc
   ·cases hc;rw [h1];exact .nil
   ·cases hc
  ·simp only [eG.new,zaE,zbi] at hi;obtain⟨l,hl,rfl⟩:=hi;exact r5 i l (zaf.1 hl).1 hl
theorem aa2(a b:Bool):bi .neq 4 (B a) (B b)=some (B (!decide (a=b))):=by
 cases a <;> cases b <;> kernel_rfl
structure jT(H:aj)(x:AV)(l:List Int):Prop where
 is:aF H x 1 l.length (l.map I)
 one:One x
 nil:l=[]->x=zN
theorem mX(H:aj)(l:List Int):jT H (dat l) l:=⟨jh H l,pq,λh=> by rw [h,dat,dP]⟩
theorem jT.guard {H:aj}{x:AV}{l:List Int}(h:jT H x l):jT H.guard x l:=⟨h.is.guard,h.one,h.nil⟩
theorem jT.new {H:aj}{x:AV}{l:List Int}(h:jT H x l)(o:dQ):jT (H.new o) x l:=⟨h.is.new o,h.one,h.nil⟩
theorem jT.gV {H H':aj}{x:AV}{l:List Int}(h:jT H x l)(hn:H.next<=H'.next)(hg:∀r,r < H.next->H'.get r=H.get r):jT H' x l:=⟨h.is.gV hn λr _ hr=> hg r hr,h.one,h.nil⟩
theorem BZ {p:Pkt}{x:AV}(h:One x):(p.avx x).all AV.aG=true:=by simp [Pkt.avx,fG,jr,h.2]
theorem aa3 {p:Ent}{x:AV}(h:One x):(p.avx x).all AV.aG=true:=by simp [Ent.avx,fG,jr,h.2]
section
variable {b:Nat}{H H':aj}{g:Store}{q:Nat}{cs:List Cell}
theorem OS.own {τ:Nat->Option Tag}{T:Tag}{x:AV}{m:Nat}{l:List AV}(h:OS b H τ T x m l):Own b H x m l:=by
 rcases h with h | ⟨r,g,off,n,cap,ex,ty,all,k0,_,k2⟩
 ·exact .inl h
 ·exact .inr ⟨r,g,off,n,cap,ex,ty,all,k0,k2⟩
theorem Own.one {x:AV}{m:Nat}{l:List AV}(h:Own b H x m l):One x:=by
 rcases h with⟨rfl,_⟩ | ⟨r,g,off,n,cap,ex,ty,all,rfl,_⟩
 ·exact mD
 ·exact pW
theorem Sm {α:Type}:∀{es:List (Int × α)} {n:Int} {v:α},iV es n=some v->∃j:Nat,es[j]?=some (n,v)/\∀k,k < j->∀e,es[k]?=some e->e.1≠n
 | [],_,_,h=> by cases h
 | (k,w)::es,n,v,h=> by
  simp only [iV] at h;split at h
  ·rename_i e;subst e;cases h;exact⟨0,rfl,λk hk=> by omega⟩
  ·rename_i e;obtain⟨j,h1,h2⟩:=Sm h;refine⟨j+1,h1,λk hk x hx=> ?_⟩;cases k with
   | zero=> cases hx;exact e
   | succ k=> exact h2 k (by omega) x (by simpa using hx)
theorem En {α:Type}:∀{es:List (Int × α)} {n:Int},iV es n=none↔n∉es.map (·.1)
 | [],_=> by simp [iV]
 | (k,w)::es,n=> by
  simp only [iV];by_cases e:k=n
  ·simp [e]
  ·simp only [e,if_false,zaA,zam,not_or];rw [En];exact⟨λh=> ⟨λh'=> e h'.symm,h⟩,λh=> h.2⟩
theorem qp:∀(es:List (Int × AV)) (n:Int),nD es n=iV es n
 | [],_=> rfl
 | (k,w)::es,n=> by
  simp only [nD,iV];split
  ·rfl
  ·exact qp es n
theorem ML {α β:Type}:∀{es:List (Int × α)} {az:List (Int × β)} {n:Int},az.map (·.1)=es.map (·.1)->(iV es n=none↔iV az n=none):=by
 intro es az n h;rw [En,En,h]
theorem Eo {α β:Type}:∀{es:List (Int × α)} {az:List (Int × β)} {n:Int} {v:α},az.map (·.1)=es.map (·.1)->iV es n=some v->∃(j:Nat) (w:β),iV az n=some w/\es[j]?=some (n,v)/\az[j]?=some (n,w)
 | [],_,_,_,_,h=> by cases h
 | (k,v0)::es,[],_,_,h,_=> by simp at h
 | (k,v0)::es,(k',w0)::az,n,v,h,h'=> by
  simp only [zaA,zbX] at h;obtain⟨rfl,h⟩:=h;simp only [iV] at h' ⊢;split at h'
  ·rename_i e;subst e;cases h';exact⟨0,w0,by simp,rfl,rfl⟩
  ·rename_i e;obtain⟨j,w,h1,h2,h3⟩:=Eo h h';exact⟨j+1,w,by simp only [e,if_false];exact h1,h2,h3⟩
theorem Good.maps(G:Good b H g)(h:g q=some cs){i m:Nat}{k:IntKind}{es:List (Int × List AV)}(hi:cs[i]?=some (.maps k m es)):
  ∃r,ld (.ref q 0 i) H=some (.mp r,H)/\lnM (.mp r) H=some (I es.length,H)/\∀z n,∃x,(iV es n=none->x=.s z)/\(∀l,iV es n=some l->Own b H x m l)/\∀ok,lk k z (.mp r) (.s (.int k n)) ok H=some ((if ok then .tup [x,B (iV es n).isSome] else x),H):=by
 obtain⟨h0,τ,hR⟩:=G;have R:=hR q cs h;obtain⟨ty,xs,h1,h2,h3,h4⟩:=R.blk;have hlt:i < xs.length:=by rw [h2];exact(zaf.1 hi).1
 have hx:xs[i]?=some (xs[i]'hlt):=zab hlt;have:=h4 i _ _ hi hx;simp only [CR] at this;obtain⟨aes,⟨r,e,t1,t2,t3,t4⟩,a2,a3⟩:=this;rw [e] at hx;refine⟨r,by rw [dJ h1,hx];rfl,?_,λz n=> ?_⟩
 ·simp only [lnM,jl,aS,zai,ame,t4];have:=congrArg List.length a2;simp only [zaF] at this;rw [this]
 ·cases hn:iV es n with
  | none=>
   have hf:nD aes n=none:=by rw [qp];exact(ML a2).1 hn
   refine⟨.s z,λ_=> rfl,λl hl=> (by cases hl),λok=> ?_⟩;simp only [lk,jl,aS,zai,lkO,t4,and_self,if_true,hf];cases ok <;> rfl
  | some l=>
   obtain⟨j,w,b1,b2,b3⟩:=Eo a2 hn;refine⟨w,λh=> (by cases h),λl' hl=> (by cases hl;exact(a3 j n l w b2 b3).own),λok=> ?_⟩;simp only [lk,jl,aS,zai,lkO,t4,and_self,if_true,qp,b1];cases ok <;> rfl
end
theorem MN(H:aj){l:List Int}(hl:l.length < 1000000000){x:AV}(hx:jT H x l):cl 46 [x] H=some (dat l,H):=by
 by_cases h:l=[]
 ·rw [hx.nil h];subst h;have t:=iW H [] (by simp);have z:dat ([]:List Int)=zN:=by simp [dat,dP]
  rw [z] at t ⊢;exact t
 ·have h0:l.length≠0:=λe=> h (zao e);have e2:=pY (e:=3) (by_:=8) (r:=H.guard.next) (H:=H.guard.new (.blk 0 3 [])) nJ (hx.is.guard.new _) (uP l) h0 (by unfold most;omega) (by unfold most;omega);simp only [yO,nNew] at e2;refine fO rfl rfl (aax _ _ _ (r:=(.sl (H.next+1) 0 0 1 l.length l.length false,(H.guard.new (.blk 0 3 [])).new (.blk 0 (3+fA) (l.map I)))) ?_) ?_
  ·have e1:bi .eql 22 x zN=some (B false):=aF.X9 Tryz.underlying22 hx.is h0;simp -implicitDefEqProofs only [xq_,WY,e1,KR,wB,e2,zbn,zaT]
  ·rw [tY h];refine jv (by omega) (cells:=l.map I) ?_ (fH _ λx hx=> uQ l x hx _ _);simp only [aY,iw,nNew,yO,if_true];rw [if_pos (by simp),zaR,zas (by simp)]
theorem Jr(e:Ent){d:Nat}:∀x∈e.av,Frz (d+2) x:=λx hx=> by
 simp only [Ent.av,zam,zaI,or_false] at hx;rcases hx with rfl | rfl | rfl | rfl | rfl | rfl <;> first | exact eu | exact qY
theorem afQ(e:Row){d:Nat}:∀x∈e.av,Frz (d+2) x:=λx hx=> by
 simp only [Row.av,zam,zaI,or_false] at hx;rcases hx with rfl | rfl | rfl <;> first | exact eu | exact qY
theorem rE:Ent.zero.av=[zI,zI,zI,zI,zB,zN]:=by simp [Ent.zero,Ent.av,dat,dP]
theorem aa4:Row.zero.av=[zI,zI,zN]:=by simp [Row.zero,Row.av,dat,dP]
theorem Sr(H:aj)(e:Ent){x:AV}(hl:e.data.length < 1000000000)(hx:jT H x e.data):cl 72 [.agg (e.avx x)] H=some (.agg e.av,H):=by
 refine aX rfl rfl (anu _ _ _) ?_ (kC (Jr e));have e1:=λo o'=> MN ((H.guard.new o).new o') hl ((hx.guard.new o).new o');simp -implicitDefEqProofs only [Nat.reduceLT,Nat.reduceAdd,setAt,xq_,hq_,aiL,aA,hx.one.2,Ent.avx,e1,Ent.av]
section
variable {b:Nat}{H:aj}{g:Store}{q:Nat}
theorem apj(H:aj)(e:Ent){r:Nat}{line:Int}(h:∀H':aj,H'.get=H.get->ld (.ref r 0 0) H'=some (I line,H'))(hr:r < H.next):cl 120 [.agg e.av,.ref r 0 0] H=some (B (decide (e.line=line)),H):=by
 refine aX rfl rfl (ajw _ _ _ _) ?_ eu;have e1:=h H.guard rfl;simp -implicitDefEqProofs only [Nat.reduceLT,xq_,hq_,adf,aA,Ent.av,e1,hr]
theorem Ep(G:Good b H g){c:Cache}(h:g q=some (bf c))(hl:c.l.length < 1000000)(line:Int):cl 71 [.ref q 0 0,I line] H=some (I (BR (c.at_ line)),H):=by
 refine aX rfl rfl (ant _ _ _ _) ?_ eu;have G1:=G.guard.new (.blk 0 3 [I line]);obtain⟨x,hx,c1⟩:=G1.seq h (i:=0) rfl;have hs:=c1.is (by decide) (bn bT c.l);have e2:=L8 (H.guard.new (.blk 0 3 [I line])) (enc:=Ent.av) bT (f:=.fn (.func 120) [] [.ref H.next 0 0]) hs (by omega) (λe=> decide (e.line=line)) (λe _=> by
  rw [xq (by kernel_rfl)];exact apj _ e (λH' hg=> by rw [dJ (g:=0) (ty:=3) (xs:=[I line]) (by rw [hg];exact aJ rfl)];rfl) (by rw [nNew,yO];omega))
 have eb:eH 3 (I line) H.guard=some (.ref H.next 0 0,H.guard.new (.blk 0 3 [I line])):=rfl;simp -implicitDefEqProofs only [xq_,aiK,eb,hx,e2];rfl
theorem oP {α:Type}{p:α->Bool}:∀l:List α,(l.findIdx? p).bind (λi=> l[i]?)=l.find? p
 | []=> rfl
 | a::l=> by
  rw [List.findIdx?_cons,List.find?_cons];cases h:p a with
  | true=> simp
  | false=>
   simp only [zah,if_false];rw [<-oP l];cases l.findIdx? p <;> simp
def lY(o:Option Ent):AV:=.tup [.agg (o.getD .zero).av,B o.isSome]
theorem Uo(o:Option Ent):Frz 9 (lY o):=qX λx hx=> by
 simp only [zam,zaI,or_false] at hx;rcases hx with rfl | rfl
 ·exact kC (Jr _)
 ·exact eu
theorem nR(G:Good b H g){c:Cache}(h:g q=some (bf c))(hl:c.l.length < 1000000)(hd:∀e∈c.l,e.data.length < 1000000000)(line:Int):cl 37 [.ref q 0 0,I line] H=some (lY (c.find line),H):=by
 refine aX rfl rfl (amZ _ _ _ _) ?_ (Uo _);have G1:=G.guard.new (.blk 0 93 [zI,zI,zI,zI,zB,zN]);have e1:=Ep G1 h hl line;have hf:c.find line=(c.at_ line).bind λi=> c.l[i]?:=(oP c.l).symm;cases ha:c.at_ line with
 | none=>
  rw [ha] at e1 hf;have hn:BR (none:Option Nat)=-1:=rfl;rw [hn] at e1;simp -implicitDefEqProofs only [Int.reduceLT,Int.reduceNeg,Nat.reduceAdd,setAt,xq_,hq_,afd,e1,ahl,gJ,bW,hf,lY,rE,zaY,zaL,Option.bind_none]
 | some i=>
  rw [ha] at e1 hf;have hi:i < c.l.length:=zbw.1 ha |>.1
  obtain⟨e,he⟩:∃e,c.l[i]?=some e:=⟨_,zab hi⟩
  have hn:BR (some i)=(i:Int):=rfl;rw [hn] at e1;have h0:¬(i:Int) < 0:=by omega
  obtain⟨x,hx,c1⟩:=G1.seq h (i:=0) rfl;have hs:=c1.is (by decide) (bn bT c.l);have e3:=hs.ix (k:=.i64) (i:=(i:Int)) (by omega) (by omega);rw [zar] at e3;have e4:=jG bT hs he;have e5:=λH=> Sr H e (hd e (zaq he)) (mX H e.data);have e6:e.avx (dat e.data)=e.av:=rfl;rw [e6] at e5;have hf':c.find line=some e:=by rw [hf];exact he
  simp -implicitDefEqProofs only [Nat.reduceAdd,setAt,xq_,hq_,afd,e1,h0,hx,e3,e4,e5,hf',lY,zaz,zaM]
theorem ak0(G:Good b H g){c:Cfg}{rows:Rows}(h:g q=some (Aw c rows))(hd:∀e∈rows,e.2.data.length < 1000000000)(line:Int):cl 74 [.ref q 0 0,I line] H=some (.tup [.agg (rowOf rows line).av,B (iV rows line).isSome],H):=by
 refine aX rfl rfl (anv _ _ _ _) ?_ (qX λx hx=> ?_)
 ·have G1:=G.guard.new (.blk 0 100 [zI,zI,zN]);obtain⟨r,f1,f2,_⟩:=G1.map h (i:=8) rfl;have f3:=f2 (.agg #[.int .i64 0,.int .i64 0,.slice none 0 0]) line true;rw [uI] at f3;cases hr:iV rows line with
  | none=>
   have e5:=λH=> iW H [] (by simp);have z0:dat ([]:List Int)=zN:=by simp [dat,dP]
   rw [z0] at e5;have zc:AV.cells (.s (.agg #[.int .i64 0,.int .i64 0,.slice none 0 0]))=[zI,zI,zN]:=rfl;simp only [hr,Option.map_none,if_true] at f3;have zn:zN.aG=true:=rfl;have zn':zN.cells=[zN]:=rfl;simp -implicitDefEqProofs only [Nat.reduceAdd,setAt,xq_,hq_,afn,f1,f3,zc,e5,rowOf,hr,aa4,zaY,zaL,zn,zn']
  | some w=>
   simp only [hr,zai,if_true] at f3;have hm:w.data.length < 1000000000:=by
    obtain⟨j,hj,_⟩:=Sm hr;exact hd _ (zaq hj)
   have e5:=λH=> iW H w.data hm;simp -implicitDefEqProofs only [Nat.reduceAdd,setAt,xq_,hq_,afn,f1,f3,Row.av,e5,rowOf,hr,zaz,zaM]
 ·simp only [zam,zaI,or_false] at hx;rcases hx with rfl | rfl
  ·exact kC (afQ _)
  ·exact eu
theorem Ur(G:Good b H g){t:Turns}(h:g q=some (fP t))(line:Int):cl 75 [.ref q 0 0,I line] H=some (I (t.owner line),H):=by
 refine aX rfl rfl (anw _ _ _ _) ?_ eu;obtain⟨r,f1,f2,_⟩:=G.guard.map h (i:=0) rfl;have f3:=f2 (.int .i64 0) line true;rw [uI] at f3;cases hr:iV t.gY line with
 | none=>
  simp only [hr,Option.map_none,if_true] at f3;simp -implicitDefEqProofs only [Int.reduceNeg,xq_,afo,f1,f3,Turns.owner,hr,zaY]
 | some w=>
  simp only [hr,zai,if_true] at f3;simp -implicitDefEqProofs only [Int.reduceNeg,xq_,afo,f1,f3,Turns.owner,hr,zaz]
theorem uT(G:Good b H g){t:Turns}(h:g q=some (fP t))(line:Int):cl 193 [.ref q 0 0,I line] H=some (B (t.owned line),H):=by
 refine aX rfl rfl (aku _ _ _ _) ?_ eu;obtain⟨r,f1,f2,_⟩:=G.guard.map h (i:=0) rfl;have f3:=f2 (.int .i64 0) line true;rw [uI] at f3;cases hr:iV t.gY line with
 | none=>
  simp only [hr,Option.map_none,if_true] at f3;simp -implicitDefEqProofs only [xq_,XG,f1,f3,Turns.owned,hr,zaL]
 | some w=>
  simp only [hr,zai,if_true] at f3;simp -implicitDefEqProofs only [xq_,XG,f1,f3,Turns.owned,hr,zaM]
def EO(w:Int × Int):List AV:=[I w.1,I w.2]
theorem Js {α β:Type}(f:α->β):∀(es:List (Int × α)) (n:Int),iV (es.map λe=> (e.1,f e.2)) n=(iV es n).map f
 | [],_=> rfl
 | (k,v)::es,n=> by
  simp only [zaA,iV];split
  ·rfl
  ·exact Js f es n
theorem ak1(G:Good b H g){t:Turns}(h:g q=some (fP t))(line:Int):∃r x,ld (.ref q 0 1) H=some (.mp r,H)/\lk .i64 (.slice none 0 0) (.mp r) (I line) false H=some (x,H)/\Own b H x 2 ((t.ws line).flatMap EO):=by
 obtain⟨r,f1,_,f2⟩:=G.maps h (i:=1) rfl;obtain⟨x,x1,x2,x3⟩:=f2 (.slice none 0 0) line;refine⟨r,x,f1,x3 false,?_⟩;rw [Js (λl:List (Int × Int)=> l.flatMap λw=> [I w.1,I w.2])] at x1 x2;simp only [show(λw:Int × Int=> [I w.1,I w.2])=EO from rfl] at x1 x2;cases hr:iV t.wait line with
 | none=>
  rw [hr] at x1;exact .inl ⟨x1 rfl,by simp [Turns.ws,hr]⟩
 | some w=>
  rw [hr] at x2;have:=x2 _ rfl
  simpa [Turns.ws,hr] using this
theorem um(G:Good b H g){t:Turns}(h:g q=some (fP t))(line:Int):cl 194 [.ref q 0 0,I line] H=some (I (t.ws line).length,H):=by
 refine aX rfl rfl (akv _ _ _ _) ?_ eu;obtain⟨r,x,f1,f2,f3⟩:=ak1 G.guard h line;have e:=(f3.is (n:=(t.ws line).length) (by decide) (bn (enc:=EO) (λ_=> rfl) _)).lnS;simp -implicitDefEqProofs only [xq_,adY,f1,f2,e]
theorem aa5 {e m by_ r ty:Nat}{y:AV}{H:aj}(hx:H.get r=.blk 0 ty [])(hy:aF H y m 0 []):app e m by_ (.sl r 0 0 m 0 0 true) y H=some (.sl r 0 0 m 0 0 true,H):=by
 obtain⟨c1,c2⟩:=hy.sV;simp only [app,c1,c2,bQ];rw [if_pos ⟨by simp,rfl⟩];simp only [hx];rw [if_pos ⟨trivial,trivial,by simp⟩,if_pos trivial]
theorem PL(H:aj){l:List Evn}(hl:l.length < 1000000000){x:AV}(hx:aF H x 4 l.length (l.flatMap Evn.av))(hf:∀a:Evn,∀z∈Evn.av a,Frz 8 z)(ha:∀a:Evn,(Evn.av a).all AV.aG=true)(hm:∀a:Evn,(Evn.av a).length=4):∃y,cl 49 [x] H=some (y,H)/\∀H':aj,aF H' y 4 l.length (l.flatMap Evn.av):=by
 by_cases hz:x=zN
 ·subst hz;have h0:l=[]:=by
   have h1:=hx.2.2.2;exact zao h1
  subst h0;refine⟨zN,fO rfl rfl (afg _ _ _ (r:=(zN,H.guard)) ?_) gW,λ_=> aF.nil⟩;have e:bi .eql 48 zN zN=some (B true):=by kernel_rfl
  simp -implicitDefEqProofs only [xq_,aay,e]
 ·have e1:bi .eql 48 x zN=some (B false):=by
   obtain⟨_,hx⟩:=hx;cases x with
   | sl r g o m n c ex=> exact yP Tryz.underlying48
   | vs n m l=> exact qc Tryz.underlying48
   | s v=>
    cases v with
    | slice a b c=>
     cases a with
     | none=> obtain⟨rfl,rfl,_⟩:=hx;exact absurd rfl hz
     | some a=> exact hx.elim
    | _=> exact hx.elim
   | _=> exact hx.elim
  let H1:=H.guard.new (.blk 0 51 []);have x1:aF H1 x 4 l.length (l.flatMap Evn.av):=hx.guard.new _;by_cases h:l=[]
  ·subst h;have e2:=aa5 (e:=51) (by_:=32) (r:=H.next) (H:=H1) (aJ rfl) x1;refine⟨.vs 0 4 [],fO rfl rfl (afg _ _ _ (r:=(.sl H.next 0 0 4 0 0 true,H1)) ?_) ?_,λ_=> aF.vs rfl⟩
   ·simp only [H1] at e2;simp -implicitDefEqProofs only [xq_,aay,e1,Z5,wB,e2,zbn,zaT];rfl
   ·refine jv (zac _) (cells:=[]) ?_ rfl;have:H1.get H.next=.blk 0 51 []:=aJ rfl
    simp only [aY,this];rfl
  ·have h0:l.length≠0:=λe=> h (zao e);have e2:=pY (e:=51) (by_:=32) (r:=H.next) (H:=H1) (aJ rfl) x1 (Bc ha l) h0 (by unfold most;omega) (by unfold most;omega);refine⟨.vs l.length 4 (l.flatMap Evn.av),fO rfl rfl (afg _ _ _ (r:=(.sl (H.next+1) 0 0 4 l.length l.length false,H1.new (.blk 0 (51+fA) (l.flatMap Evn.av)))) ?_) ?_,λ_=> aF.vs (bn hm l)⟩
   ·have n1:H1.next=H.next+1:=rfl
    rw [n1] at e2;simp only [H1] at e2;simp -implicitDefEqProofs only [xq_,aay,e1,Z5,wB,e2,zbn,zaT];rfl
   ·refine jv (by omega) (cells:=l.flatMap Evn.av) ?_ (fH _ λz hz=> RQ hf l z hz _ _);have:(H1.new (.blk 0 (51+fA) (l.flatMap Evn.av))).get (H.next+1)=.blk 0 (51+fA) (l.flatMap Evn.av):=aJ rfl;simp only [aY,this];rw [if_pos ⟨trivial,by rw [bn hm];omega⟩,zaR,zas (by rw [bn hm];exact zac _)]
theorem Yn {x:AV}{m n:Nat}{cells:List AV}(h:∀H':aj,aF H' x m n cells)(hz:∀z∈cells,Frz 8 z):Frz 9 x:=by
 have h0:=h aj.empty;obtain⟨hl,h1⟩:=h0;cases x with
 | sl r g o m n c ex=> exact absurd h1.2.2.1.1 (by simp [aj.empty])
 | vs n m l=> obtain⟨_,_,rfl⟩:=h1;exact acH hz
 | s v=> exact eu
 | _=> exact h1.elim
theorem PN(G:Good b H g){l:List Evn}(h:g q=some (kH l))(h2:l.length < 1000000):∃x,cl 15 [.ref q 0 0] H=some (x,H)/\∀H':aj,aF H' x 4 l.length (l.flatMap Evn.av):=by
 obtain⟨x,hx,c⟩:=G.guard.seq h (i:=0) rfl;obtain⟨y,e,hy⟩:=PL H.guard (l:=l) (by omega) (c.is (by decide) (bn pX l)) X6 wz pX;refine⟨y,aX rfl rfl (amK _ _ _) ?_ (Yn hy λz hz=> ?_),hy⟩
 ·simp -implicitDefEqProofs only [xq_,aia,hx,e]
 ·obtain⟨a,_,ha⟩:=za6.1 hz;exact X6 a z ha
theorem Jt(G:Good b H g){A:Adr}{m:dV}(M:iL g A m)(hn:m.nodes.length < 1000)(i:Int):cl 17 [.ref A.jQ 0 0,I i] H=some (if 0<=i/\i < m.nodes.length then .ref (A.N i.toNat 0) 0 0 else zP,H):=by
 obtain⟨x,hx,c⟩:=G.guard.seq M.jQ (i:=10) rfl;have hs:=c.is (n:=m.nodes.length) (by decide) (uh _ _);have e2:=hs.lnS;have hall:aT H.guard H.next 9 (if 0<=i/\i < m.nodes.length then .ref (A.N i.toNat 0) 0 0 else zP)=some (if 0<=i/\i < m.nodes.length then .ref (A.N i.toNat 0) 0 0 else zP):=by
  split
  ·rename_i h;obtain⟨n,hn⟩:∃n,m.nodes[i.toNat]?=some n:=⟨_,zab (by omega)⟩
   have:=G.lt (M.node _ n hn).1;rw [aT];simp only [this,if_true]
  ·exact gW
 refine fO rfl rfl (amN _ _ _ _ (r:=(_,H.guard)) ?_) hall;by_cases h0:i < 0
 ·have:¬(0<=i/\i < m.nodes.length):=by omega
  rw [if_neg this];simp -implicitDefEqProofs only [xq_,aat,h0]
 ·by_cases h1:(m.nodes.length:Int)<=i
  ·have:¬(0<=i/\i < m.nodes.length):=by omega
   rw [if_neg this];simp -implicitDefEqProofs only [xq_,aat,h0,hx,e2,h1]
  ·have:0<=i/\i < m.nodes.length:=by omega
   rw [if_pos this];have e3:=hs.ix (k:=.i64) (i:=i) (by omega) (by omega);have e4:=hs.ld (i:=i.toNat) (by omega);rw [Em (by omega)] at e4;simp -implicitDefEqProofs only [xq_,aat,h0,hx,e2,h1,e3,e4]
end
def uo:List (List Pkt)->Nat->Int->Option (Nat × Int)
 | [],_,_=> none
 | l::ls,j,at_=> if 0<=at_/\at_ < l.length then some (j,at_) else uo ls (j+1) (at_ - l.length)
theorem qw:∀{ls:List (List Pkt)} {j:Nat} {at_:Int} {j':Nat} {k:Int},uo ls j at_=some (j',k)->j<=j'/\∃l,ls[j' - j]?=some l/\0<=k/\k < l.length/\0<=at_/\ls.flatten[at_.toNat]?=l[k.toNat]?
 | [],_,_,_,_,h=> by cases h
 | l::ls,j,at_,j',k,h=> by
  simp only [uo] at h;split at h
  ·rename_i hc;cases h;refine⟨zac _,l,by simp,hc.1,hc.2,hc.1,?_⟩;rw [List.flatten_cons,zaJ (by omega)]
  ·rename_i hc;obtain⟨h1,l',h2,h3,h4,h5,h6⟩:=qw h;refine⟨by omega,l',by rw [show j' - j=(j' - (j+1))+1 by omega];simpa using h2,h3,h4,by omega,?_⟩;rw [List.flatten_cons,za4 (by omega),<-h6]
   congr 1;omega
theorem zy:∀{ls:List (List Pkt)} {j:Nat} {at_:Int},uo ls j at_=none->at_ < 0∨(ls.flatten.length:Int)<=at_
 | [],_,_,_=> by simp;omega
 | l::ls,j,at_,h=> by
  simp only [uo] at h;split at h
  ·cases h
  ·rename_i hc;have:=zy h;rw [List.flatten_cons,zan];omega
theorem zA:∀l:List Port,(l.flatMap λp=> [p.rq,p.an]).flatten=l.flatMap λp=> p.rq++p.an
 | []=> rfl
 | p::l=> by simp [zA l]
def jB(P:Nat->Nat->Nat)(j:Nat):List AV:=[.ref (P (j / 2) (if j % 2=0 then 0 else 2)) 0 0,.ref (P (j / 2) (if j % 2=0 then 1 else 3)) 0 0]
theorem MP {P:Nat->Nat->Nat}{n j:Nat}(h:j < 2*n):((fQ P n).drop (j*2)).take 2=jB P j:=by
 have hi:j / 2 < n:=by omega
 have hfl:=flat_get (m:=4) (enc:=λi=> lF (P i)) (λ_=> rfl) (List.range n) (j / 2) (j / 2) (zbk hi);rcases Nat.mod_two_eq_zero_or_one j with h0 | h0
 ·have e:((fQ P n).drop (j*2)).take 2=(((fQ P n).drop (j / 2*4)).take 4).take 2:=by
   rw [zbV,show j / 2*4=j*2 by omega];rfl
  rw [e];refine(congrArg (List.take 2) hfl).trans ?_;simp [jB,h0,lF]
 ·have e:((fQ P n).drop (j*2)).take 2=((((fQ P n).drop (j / 2*4)).take 4).drop 2).take 2:=by
   rw [zcg,zbE,zbV,show j / 2*4+2=j*2 by omega];rfl
  rw [e];refine(congrArg (λl=> (List.drop 2 l).take 2) hfl).trans ?_;simp [jB,h0,lF]
theorem Yo {g:Store}{f:Nat}{P:Nat->Nat->Nat}{c:Cfg}{fab:Fab}(F:fD g f P c fab){j:Nat}{l:List Pkt}(h:fab.gZ[j]?=some l):
  g (P (j / 2) (if j % 2=0 then 0 else 2))=some (kT l c.out):=by
 have hj:j < 2*fab.l.length:=by
  have:=(zaf.1 h).1
  rwa [Fab.gZ,nO] at this
 obtain⟨l',a,a',h1,h2,h3⟩:=F.aeb hj;rw [h] at h1;cases h1;rw [MP hj] at h2;simp only [jB,zbX,AV.ref.injEq,and_true] at h2;rw [h2.1];exact h3
section
variable {b:Nat}{H:aj}{g:Store}{f:Nat}{P:Nat->Nat->Nat}{c:Cfg}{fab:Fab}
def uq(P:Nat->Nat->Nat):Option (Nat × Int)->AV
 | some (j,k)=> .tup [.agg (jB P j),I k,B true]
 | none=> .tup [.agg [zP,zP],I 0,B false]
theorem Yp(G:Good b H g)(F:fD g f P c fab)(hn:fab.l.length < 1000)(h0:fab.l.length≠0)(hr:∀l∈fab.gZ,l.length < 1000)(at_:Int)(h64:In64 at_):
  cl 52 [.ref f 0 0,I at_] H=some (uq P (uo fab.gZ 0 at_),H):=by
 have hpl:fab.gZ.length=2*fab.l.length:=nO _;have hpx:(fQ P fab.l.length).length=(2*fab.l.length)*2:=by rw [fQ,lQ];omega
 let H0:=H.guard.new (.blk 0 115 [zP,zP]);have ep:=Si (G.guard.new (.blk 0 115 [zP,zP])) F hn h0;have xs:∀H':aj,aF H' (.vs (2*fab.l.length) 2 (fQ P fab.l.length)) 2 (2*fab.l.length) (fQ P fab.l.length):=λH'=> aF.vs hpx;let fnd:=uo fab.gZ 0 at_;have key:∀k j,j+k=2*fab.l.length->∀(Hi:aj) (a:Int),H0.next<=Hi.next->Hi.base=H.next->(∀r,r < H0.next->Hi.get r=H0.get r)->In64 a->
   ((0<=a/\fnd=uo (fab.gZ.drop j) j a)∨((a < 0∨9223372036854775808 - 1000 - 1000*(j:Int)<=a)/\fnd=none))->
   (IY cl [I a,.ref H.next 0 0,.vs (2*fab.l.length) 2 (fQ P fab.l.length),I (2*fab.l.length:Nat),I j] Hi).map Prod.fst=some (uq P fnd):=by
  intro k
  induction k with
  | zero=>
   intro j hj Hi a n1 b1 s1 ha hc;have h1:¬(j:Int) < (2*fab.l.length:Nat):=by omega
   have hf:fnd=none:=by
    rcases hc with⟨_,hc⟩ | ⟨_,hc⟩
    ·rw [hc,zaU (by omega)];rfl
    ·exact hc
   have g0:Hi.get H.next=.blk 0 115 [zP,zP]:=by rw [s1 _ (by show H.next < H.next+1;omega)];exact aJ rfl
   have hb1:Hi.base<=H.next:=by omega
   have e0:bd 115 []=some (.agg [zP,zP]):=by simp -implicitDefEqProofs only [xq_,ab9,gJ,dL]
   have e1:=acQ (H:=Hi) (r:=H.next) (off:=0) (n:=2) (v:=.agg [zP,zP]) g0 hb1 rfl rfl (by decide);rw [hf,Xa];have e2:=fJ (H:=Hi.put H.next (.blk 0 115 (setAt [zP,zP] 0 [zP,zP]))) (r:=H.next) (off:=0) (n:=2) (g:=0) (ty:=115) (xs:=[zP,zP]) Dz (by decide);have hs:setAt [zP,zP] 0 [zP,zP]=[zP,zP]:=rfl;simp only [dD,hs] at e1 e2;simp -implicitDefEqProofs only [Nat.reduceAdd,setAt,xq_,hq_,h1,e0,e1,e2,uq]
  | succ k ih=>
   intro j hj Hi a n1 b1 s1 ha hc;have h1:(j:Int) < (2*fab.l.length:Nat):=by omega
   have h6:(j:Int)+1=((j+1:Nat):Int):=by omega
   have h7:=wrap_i64 (a:=((j+1:Nat):Int)) (by omega) (by omega);have a1:=(xs Hi).ix (k:=.i64) (i:=(j:Int)) (by omega) h1;rw [zar] at a1;have a3:=(xs Hi).lda (i:=j) (by omega);rw [MP (by omega)] at a3;obtain⟨l,hl⟩:∃l,fab.gZ[j]?=some l:=⟨_,zab (by omega)⟩
   have p3:=Yo F hl;have hlen:=hr l (zaq hl);let H1:=Hi.new (.blk 0 115 (jB P j));have G1:Good b H1 g:=(((G.guard.new _).ext n1 s1).new _)
   have e3:=Yb G1 p3;have sb:Hi.base<=Hi.next:=by have:H.next+1<=Hi.next:=n1;omega
   have lt0:H.next < Hi.next:=n1
   have hd:fab.gZ.drop j=l::fab.gZ.drop (j+1):=by
    rw [zbo (by omega)];rw [zab (by omega)] at hl;rw [za2 hl]
   rw [Xa];simp only [H1,jB] at e3;by_cases hin:0<=a/\a < l.length
   ·have hf:fnd=some (j,a):=by
     rcases hc with⟨_,hc⟩ | ⟨hc,_⟩
     ·rw [hc,hd,uo,if_pos hin]
     ·omega
    have g0:Hi.get H.next=.blk 0 115 [zP,zP]:=by rw [s1 _ (by show H.next < H.next+1;omega)];exact aJ rfl
    have hb1:Hi.base<=H.next:=by omega
    have e1:=acQ (H:=Hi.new (.blk 0 115 (jB P j))) (r:=H.next) (off:=0) (n:=2) (v:=.agg (jB P j)) (by rw [aP lt0];exact g0) (by rw [bNew];exact hb1) rfl rfl (by decide);have e2:=fJ (H:=(Hi.new (.blk 0 115 (jB P j))).put H.next (.blk 0 115 (setAt [zP,zP] 0 (jB P j)))) (r:=H.next) (off:=0) (n:=2) (g:=0) (ty:=115) (xs:=setAt [zP,zP] 0 (jB P j)) Dz (by simp [jB,setAt]);simp only [dD,jB] at e1 e2;have hs:∀x y:AV,setAt [zP,zP] 0 [x,y]=[x,y]:=λ_ _=> rfl;have h0:=hin.1;have h2:=hin.2;rw [hf];simp only [hs] at e1 e2;simp -implicitDefEqProofs only [Nat.reduceAdd,setAt,xq_,hq_,h1,a1,a3,jB,sb,h0,h2,e3,e1,e2,uq]
   ·have hw:∃a',IntKind.wrap .i64 (a - l.length)=a'/\In64 a'/\((0<=a'/\fnd=uo (fab.gZ.drop (j+1)) (j+1) a')∨((a' < 0∨9223372036854775808 - 1000 - 1000*((j+1:Nat):Int)<=a')/\fnd=none)):=by
     rcases hc with⟨hc0,hc⟩ | ⟨hc,hn⟩
     ·refine⟨a - l.length,wrap_i64 (by omega) (by have:=ha.2;omega),⟨by omega,by have:=ha.2;omega⟩,.inl ⟨by omega,?_⟩⟩;rw [hc,hd,uo,if_neg hin]
     ·by_cases hlow:-9223372036854775808<=a - l.length
      ·refine⟨a - l.length,wrap_i64 hlow (by have:=ha.2;omega),⟨hlow,by have:=ha.2;omega⟩,.inr ⟨?_,hn⟩⟩;rcases hc with hc | hc
       ·left;omega
       ·right;omega
      ·refine⟨a - l.length+18446744073709551616,?_,⟨by have:=ha.1;omega,by omega⟩,.inr ⟨.inr (by have:=ha.1;omega),hn⟩⟩;have:a - l.length+18446744073709551616=IntKind.wrap .i64 (a - l.length):=by
        simp [IntKind.wrap,IntKind.signed,IntKind.bits];have:=ha.1;omega
       exact this.symm
    obtain⟨a',w1,w2,w3⟩:=hw;have r1:=ih (j+1) (by omega) (Hi.new (.blk 0 115 (jB P j))) a' (zbB n1) b1 (λr hr=> by rw [aP (by omega)];exact s1 r hr) w2 w3;simp only [jB] at r1;by_cases h0:0<=a
    ·have h2:¬a < l.length:=by omega
     simp -implicitDefEqProofs only [Nat.reduceAdd,setAt,xq_,hq_,h1,a1,a3,jB,sb,h0,h2,e3,jq,w1,aW,h6,h7,r1]
    ·simp -implicitDefEqProofs only [Nat.reduceAdd,setAt,xq_,hq_,h1,a1,a3,jB,sb,h0,e3,jq,w1,aW,h6,h7,r1]
 have r1:=key (2*fab.l.length) 0 (by omega) H0 at_ (zac _) rfl (λ_ _=> rfl) h64 (by
  by_cases h:0<=at_
  ·exact .inl ⟨h,rfl⟩
  ·refine .inr ⟨.inl (by omega),?_⟩;cases hf:uo fab.gZ 0 at_ with
   | none=> exact hf
   | some r=>
    obtain⟨j,k⟩:=r;obtain⟨_,l,_,_,_,h5,_⟩:=qw hf;omega)
 have hz:∀Hz,aT Hz H.next 9 (uq P fnd)=some (uq P fnd):=by
  intro Hz;cases hf:fnd with
  | none=> exact qX (λx hx=> by
    simp only [zam,zaI,or_false] at hx;rcases hx with rfl | rfl | rfl
    ·exact kC (λx hx=> by
      simp only [zam,zaI,or_false] at hx;rcases hx with rfl | rfl <;> exact eu)
    ·exact eu
    ·exact eu) Hz _
  | some r=>
   obtain⟨j,k⟩:=r;obtain⟨_,l,hl,_⟩:=qw hf;rw [Nat.sub_zero] at hl;have hj:j / 2 < fab.l.length:=by
    have:=(zaf.1 hl).1;omega
   have l1:=F.lt G (i:=j / 2) (s:=if j % 2=0 then 0 else 2) hj (by split <;> omega);have l2:=F.lt G (i:=j / 2) (s:=if j % 2=0 then 1 else 3) hj (by split <;> omega);refine FP λx hx=> ?_;simp only [zam,zaI,or_false] at hx;rcases hx with rfl | rfl | rfl
   ·refine FN λx hx=> ?_;simp only [jB,zam,zaI,or_false] at hx;rcases hx with rfl | rfl
    ·rw [aT];exact if_pos l1
    ·rw [aT];exact if_pos l2
   ·exact gW
   ·exact gW
 cases hs:Uf cl (.ref f 0 0) (I at_) H.guard with
 | none=>
  exfalso;have e2:=(xs H0).lnS;simp only [H0] at ep e2 r1;have:(Uf cl (.ref f 0 0) (I at_) H.guard).map Prod.fst=some (uq P fnd):=by
   simp -implicitDefEqProofs only [xq_,Uf,ep,e2];exact r1
  rw [hs] at this;cases this
 | some r=>
  have e2:=(xs H0).lnS;simp only [H0] at ep e2 r1;have:(Uf cl (.ref f 0 0) (I at_) H.guard).map Prod.fst=some (uq P fnd):=by
   simp -implicitDefEqProofs only [xq_,Uf,ep,e2];exact r1
  rw [hs] at this;simp only [zai,zaa] at this;obtain⟨v,Hz⟩:=r;simp only at this;subst this;exact fO rfl rfl (ana _ _ _ _ hs) (hz Hz)
def Fab.pkt(f:Fab)(at_:Int):Option Pkt:=if at_ < 0 then none else f.all[at_.toNat]?
theorem Yq(G:Good b H g)(F:fD g f P c fab)(hn:fab.l.length < 1000)(h0:fab.l.length≠0)(hr:∀l∈fab.gZ,l.length < 1000/\∀p∈l,p.data.length < 1000000000)(at_:Int)(h64:In64 at_):
  cl 22 [.ref f 0 0,I at_] H=some (fE (fab.pkt at_),H):=by
 have G1:=G.guard.new (.blk 0 70 [zI,zI,zI,zI,zI,zI,zI,zB,zN]);have e1:=Yp G1 F hn h0 (λl hl=> (hr l hl).1) at_ h64;have hall:fab.gZ.flatten=fab.all:=zA fab.l;refine aX rfl rfl (amS _ _ _ _) ?_ (zf _);cases hf:uo fab.gZ 0 at_ with
 | none=>
  rw [hf] at e1;have hp:fab.pkt at_=none:=by
   have:=zy hf;rw [hall] at this;unfold Fab.pkt;split
   ·rfl
   ·rw [zaG (by omega)]
  have zc:([zP,zP]:List AV).all AV.aG=true:=rfl;simp -implicitDefEqProofs only [Nat.reduceAdd,setAt,xq_,hq_,afc,e1,uq,zc,wu,gJ,bW,hp,fE,dM,zaY,zaL,zak]
 | some r=>
  obtain⟨j,k⟩:=r;rw [hf] at e1;obtain⟨_,l,h2,h3,h4,h5,h6⟩:=qw hf;rw [Nat.sub_zero] at h2;have p3:=Yo F h2;have hp:fab.pkt at_=l[k.toNat]?:=by
   unfold Fab.pkt;rw [if_neg (by omega),<-hall,h6]
  have e2:=λo=> XQ (G1.new o) p3 (hr l (zaq h2)).1 (hr l (zaq h2)).2 k;have hk:¬k < 0:=by omega
  have ha:¬at_ < 0:=by omega
  simp only [hk,if_false] at e2;rw [hp];obtain⟨p,hpp⟩:∃p,l[k.toNat]?=some p:=⟨_,zab (by omega)⟩
  rw [hpp] at e2 ⊢;simp -implicitDefEqProofs only [Nat.reduceAdd,setAt,xq_,hq_,afc,e1,uq,jB,ha,e2,fE,zaz,zaM,zae]
end
theorem Own.ref {b:Nat}{H:aj}{x:AV}{m n:Nat}{l:List AV}(o:Own b H x m l)(hm:0 < m)(hl:l.length=n*m){j:Nat}(hj:j < n):
  ∃r gg off,(∀k:IntKind,ix m x (.s (.int k j)) H=some (.ref r gg off,H))/\(∀k,k < m->ld (.ref r gg (off+k)) H=(l[j*m+k]?).map λv=> (v,H))/\lda m (.ref r gg off) H=some (.agg ((l.drop (j*m)).take m),H):=by
 have hs:=o.is hm hl;have hjm:(j+1)*m<=n*m:=zaC _ (by omega);rw [zbs,zbd] at hjm;rcases o with⟨_,h0⟩ | ⟨r,gg,off,n',cap,ex,ty,all,rfl,k2,k3,k4,k5,k6,k7,k8⟩
 ·rw [h0] at hl;simp only [zau] at hl;omega
 have hn:n'=n:=hs.2.2.1;subst hn;have hcm:n'*m<=cap*m:=zaC _ k4;refine⟨r,gg,off+j*m,λk=> ?_,λk hk=> ?_,?_⟩
 ·have:=hs.ix (k:=k) (i:=(j:Int)) (by omega) (by omega);rw [zar] at this;exact this
 ·rw [dJ k5,k8,zaB,if_pos (by omega),zaD,zb9]
 ·rw [fJ k5 (by omega),k8]
  congr 3
  rw [zcg,zbE,zbV,zbf (by omega)]
theorem Own.name {b:Nat}{H:aj}{m:Nat}{x:AV}{l:List AV}(c:Own b H x m l){r:Nat}(h:nameOf x=some r):b<=r/\r < H.next:=by
 rcases c with⟨rfl,_⟩ | ⟨r',g,off,n',cap,ex,ty,all,rfl,k2,k3,_⟩
 ·cases h
 ·simp only [nameOf,zaa] at h;omega
section
variable {b:Nat}{H:aj}{g:Store}{q f:Nat}{N:Nat->Nat->Nat}{m:eG}
structure eG.fine(m:eG):Prop where
 n:m.nodes.length < 1000
 fab:m.fab.length=m.nodes.length
 afK:∀p∈m.fab,p.rq.length < 1000/\p.an.length < 1000/\p.rin.length < 1000/\p.ain.length < 1000
 ops:∀n∈m.nodes,n.ops.length < 1000/\n.values.length < 1000
end
structure Node.fine(n:Node):Prop where
 ops:n.proc.ops.length < 1000
 values:n.proc.values.length < 1000
 deal:n.deal.data.length < 1000000000
 cache:n.cache.l.length < 1000
 ents:∀e∈n.cache.l,e.data.length < 1000000000
 rows:∀e∈n.home.rows,e.2.data.length < 1000000000
structure dw.fine(n:dw):Prop where
 rows:n.homes.rows.length < 1000
 owner:n.homes.turns.owner.length < 1000000
 wait:n.homes.turns.wait.length < 1000000
theorem Us {l:List Ent}(h:l.Pairwise λa b=> a.line < b.line){a b:Ent}(ha:a∈l)(hb:b∈l)(e:a.line=b.line):a=b:=by
 induction h with
 | nil=> cases ha
 | cons h1 _ ih=>
  rcases zam.1 ha with ha1 | ha1
  ·rcases zam.1 hb with hb1 | hb1
   ·rw [ha1,hb1]
   ·have:=h1 b hb1;rw [ha1] at e;omega
  ·rcases zam.1 hb with hb1 | hb1
   ·have:=h1 a ha1;rw [hb1] at e;omega
   ·exact ih ha1 hb1
theorem ahV.find {c:Cfg}{me:Int}{n:Node}{r:dw}(S:ahV c me n r){e:Ent}(he:e∈r.cache.l):n.cache.find e.line=some e:=by
 unfold Cache.find;cases hf:n.cache.l.find? λx=> decide (x.line=e.line) with
 | none=>
  have:=zbR.1 hf e (S.perm.mem_iff.2 he);simp at this
 | some x=>
  have h1:=List.find?_some hf;have h2:=za3 hf;simp only [decide_eq_true_eq] at h1;rw [Us S.sorted (S.perm.mem_iff.1 h2) he h1]
theorem MQ {α β:Type}{f:α->Int}{g:β->Int}:∀{l:List α} {l':List β},l.length=l'.length->(∀(i:Nat) a b,l[i]?=some a->l'[i]?=some b->f a=g b)->(l.map f).sum=(l'.map g).sum
 | [],[],_,_=> rfl
 | a::l,b::l',h,hf=> by
  simp only [zaA,zbv];rw [hf 0 a b rfl rfl,MQ (by simpa using h) λi a b ha hb=> hf (i+1) a b (by simpa using ha) (by simpa using hb)]
 | [],_::_,h,_=> by simp at h
 | _::_,[],h,_=> by simp at h
theorem Sim.left {m:dV}{r:eG}(S:Sim m r):r.left=m.left:=by
 unfold eG.left dV.left;refine MQ S.len λi a b ha hb=> ?_;have:=S.node i b a hb ha;simp only [Proc.left,this.ops,this.values]
theorem afR {f:Fab}{i:Nat}{p:Port}(h:f.l[i]?=some p):f.port i=p:=by
 unfold Fab.port;rw [zar,zaw,h];rfl
theorem Ut {f:Fab}{i:Nat}{p:Port}(h:f.l[i]?=some p):f.waiting i true=p.rin.length/\f.waiting i false=p.ain.length:=by
 have hi:=(zaf.1 h).1;have:f.is i=true:=by simp only [Fab.is,zaj,decide_eq_true_eq];omega
 unfold Fab.waiting;simp only [this,if_true,afR h,Port.qZ];exact⟨trivial,by simp⟩
theorem Sim.all {m:dV}{r:eG}(S:Sim m r):r.all=m.fab.all:=by
 unfold eG.all Fab.all;rw [S.fab]
theorem Sim.quiet {m:dV}{r:eG}(S:Sim m r)(hf:m.fab.l.length=m.nodes.length):r.quiet=m.quiet:=by
 unfold eG.quiet dV.quiet;have hb:∀i,i < m.nodes.length->r.busy i=m.busy i:=by
  intro i hi;obtain⟨n,hn⟩:∃n,m.nodes[i]?=some n:=⟨_,zab hi⟩
  obtain⟨rn,hr⟩:∃n,r.nodes[i]?=some n:=⟨_,zab (by rw [S.len];exact hi)⟩
  obtain⟨p,hp⟩:∃p,m.fab.l[i]?=some p:=⟨_,zab (by omega)⟩
  have hp':r.fab[i]?=some p:=by rw [S.fab,hp]
  have N:=S.node i n rn hn hr;obtain⟨w1,w2⟩:=Ut hp;simp only [eG.busy,dV.busy,hn,hr,hp',w1,w2,N.begun,N.has];cases n.proc.begun <;> cases decide (n.deal.step=0) <;> simp <;> rw [Bool.eq_iff_iff] <;> simp <;> omega
 rw [S.all,S.len];have:(List.range m.nodes.length).all (λi=> !r.busy i)=(List.range m.nodes.length).all λi=> !m.busy i:=by
  rw [Bool.eq_iff_iff,zaV,zaV];constructor
  ·intro h i hi;rw [<-hb i (zaW.1 hi)];exact h i hi
  ·intro h i hi;rw [hb i (zaW.1 hi)];exact h i hi
 rw [this,Bool.and_comm];rfl
theorem Yr(H:aj)(line fwd back:Int)(dirty:Bool){l:List Int}(hl:l.length < 1000000000){x:AV}(hx:jT H x l):cl 204 [I line,I fwd,I back,B dirty,x] H=some (.agg (Ent.mk fwd back line 0 dirty l).av,H):=by
 refine aX rfl rfl (akF _ _ _ _ _ _ _) ?_ (kC (Jr _));have e1:=λo=> MN (H.guard.new o) hl (hx.guard.new o);simp -implicitDefEqProofs only [Nat.reduceAdd,Nat.reduceLeDiff,setAt,xq_,hq_,ad2,e1,amk,ahl,gJ,dL,ahj,ahk,Ent.av]
theorem an4(H:aj)(e:Ent)(w:Int):cl 73 [.agg e.av,I w] H=some (B (decide (0<=w/\w < e.data.length)),H.new (.blk 0 93 e.av)):=by
 refine aN rfl rfl (aiM _ _ _ _ ?_);have e1:=λH=> (jh H e.data).lnS;by_cases h0:0<=w
 ·simp -implicitDefEqProofs only [Nat.reduceLT,xq_,hq_,Xd,aA,Ent.av,h0,e1]
 ·simp -implicitDefEqProofs only [Nat.reduceLT,xq_,hq_,Xd,aA,Ent.av,h0,false_and]
theorem afS(H:aj)(e:Ent)(w:Int):cl 38 [.agg e.av,I w] H=some (I (e.word w),H):=by
 refine aX rfl rfl (am0 _ _ _ _) ?_ eu;have e1:=λH=> an4 H e w;by_cases h0:0<=w/\w < e.data.length
 ·have e2:=λH=> (jh H e.data).ix (k:=.i64) (i:=w) h0.1 h0.2;have e3:=λH=> (jh H e.data).ld (i:=w.toNat) (by omega);have e4:(e.data.map I)[w.toNat]?=some (I (e.word w)):=by
   unfold Ent.word;rw [if_pos h0,zaE,zab (by omega),zaw,zab (by omega)];rfl
  rw [e4] at e3;have e5:e.av[5]?=some (dat e.data):=rfl;simp -implicitDefEqProofs only [Nat.reduceLT,xq_,hq_,afe,aA,e1,h0,e2,e3,e5,zae]
 ·have:e.word w=0:=by unfold Ent.word;rw [if_neg h0]
  rw [this];simp -implicitDefEqProofs only [Nat.reduceLT,xq_,hq_,afe,aA,e1,h0,zak]
section
variable {b:Nat}{H:aj}{g:Store}{q:Nat}
theorem Sv(G:Good b H g){c:Cache}(h:g q=some (bf c))(hl:c.l.length < 1000000)(hs0:1<=c.sets)(line:Int):cl 168 [.ref q 0 0,I line] H=some (vsl 6 Ent.av (c.lZ line),H):=by
 obtain⟨x,hx,cx⟩:=G.guard.seq h (i:=0) rfl;have hs:=cx.is (n:=c.l.length) (by decide) (bn bT c.l);have e2:=hs.lnS;let p:Ent->Bool:=λe=> decide (0<=line) && decide (e.line.tmod c.sets=line.tmod c.sets)
 let F:Nat->List Ent:=λj=> (c.l.take j).filter p
 have hF:∀j,(F j).length<=j:=λj=> zay (zb1 _ _) (by rw [zat];omega);have key:∀k j,j+k=c.l.length->∀Hi t,Step H.next H.guard Hi->Own H.next Hi t 6 ((F j).flatMap Ent.av)->(F j=[]->t=zN)->
   ∃t' H',BG cl [.ref q 0 0,I line,t,x,I c.l.length,I j] Hi=some (t',H')/\Own H.next H' t' 6 ((c.lZ line).flatMap Ent.av)/\(c.lZ line=[]->t'=zN):=by
  intro k
  induction k with
  | zero=>
   intro j hj Hi t s o z;have h1:¬(j:Int) < c.l.length:=by omega
   have:F j=c.lZ line:=by
    simp only [F,Cache.lZ,p];rw [zas (by omega)]
   rw [this] at o z;refine⟨t,Hi,?_,o,z⟩;rw [Ru];simp -implicitDefEqProofs only [xq_,h1]
  | succ k ih=>
   intro j hj Hi t s o z;have h1:(j:Int) < c.l.length:=by omega
   have h6:(j:Int)+1=((j+1:Nat):Int):=by omega
   have h7:=wrap_i64 (a:=((j+1:Nat):Int)) (by omega) (by omega);obtain⟨e,he⟩:∃e,c.l[j]?=some e:=⟨_,zab (by omega)⟩
   have hsi:aF Hi x 6 c.l.length (c.l.flatMap Ent.av):=hs.gV s.next λr _ hr=> s.low r hr
   have s1:=hsi.ix (k:=.i64) (i:=(j:Int)) (by omega) h1;rw [zar] at s1;have s2:=jG bT hsi he;have bi:Hi.base=H.next:=s.base.trans ahO
   have ni:H.next<=Hi.next:=s.next
   have hbase:Hi.base<=Hi.next:=by omega
   have Gi:Good b Hi g:=G.guard.ext s.next s.low
   have l1:=(Gi.new (.blk 0 93 e.av)).load h (i:=1) (x:=I c.sets) rfl;have r0:c.sets≠0:=by omega
   have hFs:F (j+1)=F j++if p e=true then [e] else []:=by
    simp only [F,List.take_add_one,he,zb3,zci]
    congr 1
    cases hp:p e <;> simp [hp]
   rw [Ru];by_cases hc:0<=line/\e.line.tmod c.sets=line.tmod c.sets
   ·have hp:p e=true:=by simp only [p,hc.1,hc.2,decide_true,zca]
    rw [hp,if_pos rfl] at hFs;have hm:=hF j;obtain⟨t1,H2,a1,a2,a3⟩:=((o.new (.blk 0 93 e.av)).new (.blk 0 93 e.av)).step (e:=93) (by_:=64) (n:=(F j).length) (by simp only [nNew];omega) (by simp only [bNew];omega) (by decide) (bn bT _) (jy (ex:=true) (n:=1) (m:=6) (l:=e.av) rfl) (jJ e) (by unfold most;omega) (by unfold most;omega);have a2':Own H.next H2 t1 6 ((F (j+1)).flatMap Ent.av):=by rw [hFs,zbA];simpa using a2
    obtain⟨t',H',r1,r2⟩:=ih (j+1) (by omega) H2 t1 (((s.trans (Step.new _ ni)).trans (Step.new _ (by simp only [nNew];omega))).trans a3) a2' (λhz=> by rw [hFs] at hz;simp at hz);refine⟨t',H',?_,r2⟩;simp only [nNew] at a1;have lf:e.av[2]?=some (I e.line):=rfl;simp -implicitDefEqProofs only [Nat.reduceAdd,Nat.reduceLeDiff,setAt,xq_,hq_,h1,s1,s2,hbase,hc,lf,l1,qU r0,xY,ab4,zbd,jw (m:=6) (z:=[zI,zI,zI,zI,zB,zN]) (v:=.agg e.av) rfl rfl (jJ e),a1,aW,h6,h7];exact r1
   ·have hp:p e=false:=by
     simp only [p];by_cases h0:0<=line
     ·have:¬e.line.tmod c.sets=line.tmod c.sets:=λh=> hc ⟨h0,h⟩;simp [this]
     ·simp [h0]
    rw [hp,if_neg (by simp),zbh] at hFs;obtain⟨t',H',r1,r2⟩:=ih (j+1) (by omega) (Hi.new (.blk 0 93 e.av)) t (s.trans (Step.new _ ni)) (by rw [hFs];exact o.new _) (by rw [hFs];exact z);refine⟨t',H',?_,r2⟩;have lf:e.av[2]?=some (I e.line):=rfl;by_cases h0:0<=line
    ·have hne:¬e.line.tmod c.sets=line.tmod c.sets:=λh=> hc ⟨h0,h⟩;simp -implicitDefEqProofs only [Nat.reduceAdd,setAt,xq_,hq_,h1,s1,s2,hbase,h0,hne,lf,l1,qU r0,xY,aW,h6,h7,r1]
    ·simp -implicitDefEqProofs only [Nat.reduceAdd,setAt,xq_,hq_,h1,s1,s2,hbase,h0,xY,aW,h6,h7,r1]
 obtain⟨t',H',r1,r2,r3⟩:=key c.l.length 0 (by omega) H.guard zN (Step.refl _ _) (.inl ⟨rfl,rfl⟩) (λ_=> rfl);refine fO rfl rfl (akc _ _ _ _ (r:=(t',H')) ?_) ?_
 ·simp -implicitDefEqProofs only [xq_,adN,hx,e2];exact r1
 ·by_cases hz:c.lZ line=[]
  ·rw [r3 hz,hz,dP];exact gW
  ·rw [Ba hz];refine zx r2 (by decide) (bn bT _) (λy hy=> ?_) (λe=> hz (zao e));obtain⟨a,_,ha⟩:=za6.1 hy;exact Jr (d:=6) a y ha _ _
theorem MR(G:Good b H g){c:Cache}(h:g q=some (bf c))(hl:c.l.length < 1000000)(hs0:1<=c.sets)(line:Int):cl 117 [.ref q 0 0,I line] H=some (B (c.full line),H):=by
 refine aX rfl rfl (ajt _ _ _ _) ?_ eu;have e1:=Ep G.guard h hl line;have e2:=Sv G.guard.guard h hl hs0 line;have e3:=(Du bT H.guard (c.lZ line)).lnS;have e4:=G.guard.load h (i:=2) (x:=I c.ways) rfl;have hf:(c.find line).isNone=(c.at_ line).isNone:=by
  rw [show c.find line=(c.at_ line).bind λi=> c.l[i]? from(oP c.l).symm];cases ha:c.at_ line with
  | none=> rfl
  | some i=>
   have hi:i < c.l.length:=zbw.1 ha |>.1
   simp [zab hi]
 cases ha:c.at_ line with
 | none=>
  rw [ha] at e1 hf;have hn:BR (none:Option Nat)=-1:=rfl;rw [hn] at e1;simp -implicitDefEqProofs only [Int.reduceLT,Int.reduceNeg,xq_,Xo,e1,e2,e3,e4,Cache.full,hf,Option.isNone_none,zaK]
 | some i=>
  rw [ha] at e1 hf;have hn:BR (some i)=(i:Int):=rfl;rw [hn] at e1;have h0:¬(i:Int) < 0:=by omega
  simp -implicitDefEqProofs only [xq_,Xo,e1,h0,Cache.full,hf,Option.isNone_some,zaN]
end
theorem aa6(H:aj)(a e:Ent)(h:In64 (a.used - e.used)):cl 170 [.agg a.av,.agg e.av] H=some (I (a.used - e.used),H):=by
 refine aX rfl rfl (ake _ _ _ _) ?_ eu;have w:=wrap_i64 h.1 h.2;simp -implicitDefEqProofs only [Nat.reduceLT,xq_,hq_,adQ,aA,Ent.av,jq,w]
abbrev aeg(m:Ent)(l:List Ent):Ent:=l.foldl (λm x=> if x.used < m.used then x else m) m
theorem Uu(H:aj)(hb:H.base<=H.next){a:Ent}{l:List Ent}(hl:l.length < 1000000)(hu:∀e∈a::l,0<=e.used/\e.used < 1000000000):
  ∃H',cl 169 [vsl 6 Ent.av (a::l),.fn (.func 170) [] []] H=some (.agg (aeg a l).av,H'):=by
 obtain⟨L,hL⟩:∃L,L=a::l:=⟨_,rfl⟩
 have hs:=λH=> Du bT H L;have hll:L.length=l.length+1:=by rw [hL];rfl
 rw [<-hL] at hu ⊢;let HH:Ent->aj:=λm=> (H.new (.blk 0 93 [zI,zI,zI,zI,zB,zN])).new (.blk 0 93 m.av)
 have key:∀k j,j+k=L.length->∀m,m∈L->
   ∃H',BH cl [vsl 6 Ent.av L,.fn (.func 170) [] [],.ref H.next 0 0,.ref (H.next+1) 0 0,I j] (HH m)=some (.agg (aeg m (L.drop j)).av,H'):=by
  intro k
  induction k with
  | zero=>
   intro j hj m hm;have h1:¬(j:Int) < L.length:=by omega
   have s0:=(hs (HH m)).lnS;have hd:L.drop j=[]:=zaU (by omega);refine⟨(H.new (.blk 0 93 m.av)).new (.blk 0 93 m.av),?_⟩;rw [Rw,hd];simp only [HH] at s0 ⊢;simp -implicitDefEqProofs only [Nat.reduceAdd,setAt,xq_,hq_,s0,h1,hb,aeg,List.foldl_nil]
  | succ k ih=>
   intro j hj m hm;have h1:(j:Int) < L.length:=by omega
   have h6:(j:Int)+1=((j+1:Nat):Int):=by omega
   have h7:=wrap_i64 (a:=((j+1:Nat):Int)) (by omega) (by omega);obtain⟨e,he⟩:∃e,L[j]?=some e:=⟨_,zab (by omega)⟩
   have s0:=(hs (HH m)).lnS;have s1:=(hs (HH m)).ix (k:=.i64) (i:=(j:Int)) (by omega) h1;rw [zar] at s1;have s2:=jG bT (hs (HH m)) he;have u1:=hu _ (zaq he);have u2:=hu _ hm;have c0:qE Tryz.prog cl (.fn (.func 170) [] []) [.agg e.av,.agg m.av] (HH m)=some (I (e.used - m.used),HH m):=by
    rw [xq (by kernel_rfl)];exact aa6 _ e m ⟨by omega,by omega⟩
   have hd:L.drop j=e::L.drop (j+1):=by
    rw [zbo (by omega)];rw [zab (by omega)] at he;rw [za2 he]
   rw [Rw,hd];by_cases hc:e.used < m.used
   ·have hc':e.used - m.used < 0:=by omega
    obtain⟨H',r1⟩:=ih (j+1) (by omega) e (zaq he);refine⟨H',?_⟩;simp only [HH] at s0 s1 s2 c0 r1 ⊢;simp -implicitDefEqProofs only [Nat.reduceAdd,setAt,xq_,hq_,s0,h1,s1,s2,c0,hc',hb,BI,aW,h6,h7,aeg,zbM,hc];exact r1
   ·have hc':¬e.used - m.used < 0:=by omega
    obtain⟨H',r1⟩:=ih (j+1) (by omega) m hm;refine⟨H',?_⟩;simp only [HH] at s0 s1 s2 c0 r1 ⊢;simp -implicitDefEqProofs only [Nat.reduceAdd,setAt,xq_,hq_,s0,h1,s1,s2,c0,hc',hb,BI,aW,h6,h7,aeg,zbM,hc];exact r1
 obtain⟨H',r1⟩:=key l.length 1 (by omega) a (by rw [hL];simp);refine⟨H',aN rfl rfl (akd _ _ _ _ ?_)⟩;let H1:=H.new (.blk 0 93 [zI,zI,zI,zI,zB,zN]);have s0:=(hs H1).lnS;have h1:¬(L.length:Int) < 1:=by omega
 have s1:=(hs H1).ix (k:=.i64) (i:=(0:Int)) (by omega) (by omega);have s2:=jG bT (hs H1) (i:=0) (a:=a) (by rw [hL];rfl);rw [show((0:Int).toNat)=0 from rfl] at s1;have d1:L.drop 1=l:=by rw [hL];rfl
 rw [d1] at r1;simp only [HH] at r1;simp only [H1] at s0 s1 s2;have j1:((1:Nat):Int)=1:=rfl;rw [j1] at r1;simp -implicitDefEqProofs only [Nat.reduceAdd,setAt,xq_,hq_,adP,Je,s0,h1,s1,s2,hb];exact r1
section
variable {b:Nat}{H:aj}{g:Store}{q:Nat}
theorem afT(c:Cache)(line:Int):∀e∈c.lZ line,e∈c.l:=λe he=> (zbq.1 he).1
theorem PO(G:Good b H g){c:Cache}(h:g q=some (bf c))(hl:c.l.length < 1000000)(hs0:1<=c.sets)(hu:∀e∈c.l,0<=e.used/\e.used < 1000000000)(line:Int):
  cl 118 [.ref q 0 0,I line] H=some (.tup [I ((c.lU line).getD 0),B (c.lU line).isSome],H):=by
 refine aX rfl rfl (aju _ _ _ _) ?_ (qX λx hx=> by
  simp only [zam,zaI,or_false] at hx;rcases hx with rfl | rfl <;> exact eu)
 have e2:=Sv G.guard h hl hs0 line;have e3:=(Du bT H.guard (c.lZ line)).lnS;have hlen:(c.lZ line).length<=c.l.length:=zb1 _ _;cases hz:c.lZ line with
 | nil=>
  rw [hz] at e2 e3;have hv:c.lU line=none:=by simp [Cache.lU,hz,lu]
  simp -implicitDefEqProofs only [xq_,Xp,e2,e3,hv,zau,Int.ofNat_zero,zaY,zaL]
 | cons a l=>
  rw [hz] at e2 e3 hlen;have hv:c.lU line=some (aeg a l).line:=by simp [Cache.lU,hz,lu]
  obtain⟨H',e4⟩:=Uu H.guard (zac _) (a:=a) (l:=l) (by simp only [zal] at hlen;omega) (λe he=> hu e (afT c line e (by rw [hz];exact he)));have h1:¬((a::l).length:Int)=0:=by simp only [zal];omega
  have lf:(aeg a l).av[2]?=some (I (aeg a l).line):=rfl;simp -implicitDefEqProofs only [xq_,Xp,e2,e3,h1,e4,hv,lf,zaz,zaM]
end
theorem Gt {α:Type}{enc:α->List AV}{m:Nat}(he:∀a,(enc a).length=m){a':α}{o:Nat}{vs:List AV}(ho:o+vs.length<=m):∀(l:List α) (i:Nat) (a:α),l[i]?=some a->setAt (enc a) o vs=enc a'->setAt (l.flatMap enc) (i*m+o) vs=(l.set i a').flatMap enc
 | [],i,a,h,_=> by simp at h
 | x::l,0,a,h,hv=> by
  simp only [zaZ,zaa] at h;subst h;have hl:=he x;rw [List.set_cons_zero,zaH,zaH,<-hv];unfold setAt;rw [zbn,za8,zbO (by omega),List.drop_append_of_le_length (by omega)];simp only [List.append_assoc]
 | x::l,i+1,a,h,hv=> by
  have hl:=he x;have ih:=Gt he ho l i a (by simpa using h) hv;rw [List.set_cons_succ,zaH,zaH,<-ih];unfold setAt;have e1:(i+1)*m+o=(enc x).length+(i*m+o):=by rw [hl,zbs,zbd];omega
  have e2:(i+1)*m+o+vs.length=(enc x).length+(i*m+o+vs.length):=by rw [hl,zbs,zbd];omega
  rw [e2,e1,List.take_length_add_append,List.drop_length_add_append,List.append_assoc]
section
variable {b:Nat}{H:aj}{g:Store}{q:Nat}
theorem MS(G:Good b H g)(hb:H.base<=b){c:Cache}(h:g q=some (bf c)){x:AV}(cx:Cur b H q 0 x 6 (c.l.flatMap Ent.av)){i:Nat}{e e':Ent}(hi:c.l[i]?=some e):
  ∃r gg off,bZ x i=.ref r gg off/\∀(w o:Nat) (v:AV),v.cells.length=w->v.cells.all AV.aG=true->o+w<=6->setAt e.av o v.cells=e'.av->
   ∃H',st w (.ref r gg (off+o)) v H=some (aK,H')/\Good b H' (upd g q (bf { c with l:=c.l.set i e' }))/\Step b H H'/\H'.next=H.next:=by
 obtain⟨r,gg,off,e1,e2⟩:=G.elem hb h (i:=0) rfl (by decide) (bn bT c.l) cx (j:=i) (zaf.1 hi).1;refine⟨r,gg,off,e1,λw o v h1 h2 h3 h4=> ?_⟩;obtain⟨H',s1,s2,s3⟩:=e2 w o v h1 h2 h3;refine⟨H',s1,?_,s3⟩;have:=Gt bT (o:=o) (vs:=v.cells) (by omega) c.l i e hi h4;rw [this] at s2;exact s2
theorem Uw(G:Good b H g)(hb:H.base<=b){c:Cache}(h:g q=some (bf c))(hl:c.l.length < 1000000)(hk:0<=c.clock/\c.clock < 1000000000)(line:Int):
  ∃H',cl 116 [.ref q 0 0,I line] H=some (B (c.at_ line).isSome,H')/\Good b H' (upd g q (bf (c.touch line)))/\Step b H H':=by
 refine ji rfl rfl (ajr _ _ _ _) ?_;have e1:=Ep G h hl line;cases ha:c.at_ line with
 | none=>
  rw [ha] at e1;have hn:BR (none:Option Nat)=-1:=rfl;rw [hn] at e1;refine⟨H,?_,by rw [show c.touch line=c by simp [Cache.touch,ha],dN h];exact G,Step.refl _ _⟩;simp -implicitDefEqProofs only [Int.reduceLT,Int.reduceNeg,xq_,Xn,e1,zaL]
 | some i=>
  rw [ha] at e1;have hn:BR (some i)=(i:Int):=rfl;rw [hn] at e1;have h0:¬(i:Int) < 0:=by omega
  have hi:i < c.l.length:=zbw.1 ha |>.1
  obtain⟨e,he⟩:∃e,c.l[i]?=some e:=⟨_,zab hi⟩
  have l1:=G.load h (i:=3) (x:=I c.clock) rfl;have w1:=wrap_i64 (a:=c.clock+1) (by omega) (by omega);obtain⟨H1,s1,G1,s3,s4⟩:=G.store hb h (i:=3) (v:=I (c.clock+1)) (by simp [bf]) bP;have h1:upd g q ((bf c).set 3 (.av (I (c.clock+1)))) q=some (bf { c with clock:=c.clock+1 }):=upd_same;have l2:=G1.load h1 (i:=3) (x:=I (c.clock+1)) rfl;obtain⟨x,hx,cx⟩:=G1.seq h1 (i:=0) rfl;have hs:=cx.is (n:=c.l.length) (by decide) (bn bT c.l);have e3:=hs.ix (k:=.i64) (i:=(i:Int)) (by omega) (by omega);rw [zar] at e3;obtain⟨r,gg,off,p1,p2⟩:=MS G1 (by rw [s3.base];exact hb) h1 cx (e':={ e with used:=c.clock+1 }) he;obtain⟨H2,t1,t2,t3,t4⟩:=p2 1 3 (I (c.clock+1)) rfl rfl (by decide) rfl;rw [p1] at e3;refine⟨H2,?_,?_,s3.trans t3⟩
  ·simp -implicitDefEqProofs only [xq_,Xn,e1,h0,l1,aW,w1,s1,hx,l2,e3,t1,zaM]
  ·rw [nI] at t2;have:c.touch line={ c with l:=c.l.set i { e with used:=c.clock+1 },clock:=c.clock+1 }:=by
    simp only [Cache.touch,ha];rw [zaw,he];rfl
   rw [this];exact t2
theorem afU {i n:Nat}{x:AV}{l:List AV}(c:Cur b H q i x 6 l)(hb:H.base<=b)(hl:l.length=n*6)(hn:n < 1000000000){j:Nat}(hj:j < n):
  ∃x' H',cl 211 [x,I j,I (j+1)] H=some (x',H')/\Fit H H' x x' 6 (l.take (j*6)++l.drop ((j+1)*6))/\H'.next=H.next/\H'.base=H.base/\∀r,nameOf x≠some r->H'.get r=H.get r:=by
 obtain⟨y,x1,x2,x3,H1,x4,H2,e1,e2,e3,e4,e5,e6,e7,f,n1,b1,k1⟩:=QN c hb (by decide) hl hn hj (z:=[zI,zI,zI,zI,zB,zN]) rfl rfl (e:=93) (by_:=64) (by decide);have e0:=(c.is (by decide) hl).lnS;have hne:((j:Int)=j+1)=False:=eq_false (by omega);refine⟨x3,H2,aN rfl rfl (akL _ _ _ _ _ ?_),f,n1,b1,k1⟩;simp -implicitDefEqProofs only [xq_,ad5,e0,e1,e2,e3,e4,e5,e6,e7,hne]
theorem Yt(G:Good b H g)(hb:H.base<=b){c:Cache}(h:g q=some (bf c))(hl:c.l.length < 1000000){j:Nat}(hj:j < c.l.length):
  ∃x x' H1 H2,ld (.ref q 0 0) H=some (x,H)/\cl 211 [x,I j,I (j+1)] H=some (x',H1)/\st 1 (.ref q 0 0) x' H1=some (aK,H2)/\Good b H2 (upd g q (bf { c with l:=c.l.eraseIdx j }))/\Step b H H2:=by
 obtain⟨x,hx,cx⟩:=G.seq h (i:=0) rfl;obtain⟨x',H1,d1,d2,d3,d4,d5⟩:=afU cx hb (bn bT c.l) (by omega) hj;rw [Gh bT] at d2;obtain⟨H2,s1,s2,s3,s4⟩:=G.seat h (i:=0) rfl cx (by omega) (by omega) (λr _ hr=> d5 r hr) d2;exact⟨x,x',H1,H2,hx,d1,s1,s2,Step.trans ⟨d4,by omega,λr hr=> d5 r (cx.low hr)⟩ s3⟩
theorem Es(G:Good b H g)(hb:H.base<=b){c:Cache}(h:g q=some (bf c))(hl:c.l.length < 1000000)(hd:∀e∈c.l,e.data.length < 1000000000)(line:Int):
  ∃H',cl 200 [.ref q 0 0,I line] H=some (lY (c.find line),H')/\Good b H' (upd g q (bf (c.drop line)))/\Step b H H':=by
 have hq:=G.lt h;have G1:=G.newObj (ty:=93) (xs:=[zI,zI,zI,zI,zB,zN]) rfl;have h1:upd g H.next ([zI,zI,zI,zI,zB,zN].map .av) q=some (bf c):=by rw [upd_ne (by omega)];exact h
 have e1:=nR G1 h1 hl hd line;have hb0:H.base<=H.next:=zay hb G.1
 refine ji rfl rfl (akD _ _ _ _) ?_;have hf:c.find line=(c.at_ line).bind λi=> c.l[i]?:=(oP c.l).symm;cases ha:c.at_ line with
 | none=>
  rw [ha] at hf;have hf:c.find line=none:=hf;rw [hf] at e1;simp only [lY,zaY,zaL,rE] at e1;have hdr:c.drop line=c:=by simp [Cache.drop,ha]
  simp -implicitDefEqProofs only [Nat.reduceAdd,setAt,xq_,hq_,zaa,zad,exists_eq_left',XH,e1,BP,lY,hf,zaY,zaL,rE,hb0];rw [hdr,dN h];exact⟨(G.new _).new _,(Step.new _ G.1).trans (Step.new _ (G.new _).1)⟩
 | some i=>
  have hi:i < c.l.length:=zbw.1 ha |>.1
  obtain⟨e,he⟩:∃e,c.l[i]?=some e:=⟨_,zab hi⟩
  rw [ha] at hf;have hf:c.find line=some e:=by rw [hf];exact he
  rw [hf] at e1;simp only [lY,zaz,zaM] at e1;have G2:=G1.newObj (ty:=93) (xs:=e.av) (jJ _);have h2:upd (upd g H.next ([zI,zI,zI,zI,zB,zN].map .av)) (H.next+1) (e.av.map .av) q=some (bf c):=by rw [upd_ne (by omega)];exact h1
  have e2:=Ep G2 h2 hl line;have hn:BR (some i)=(i:Int):=rfl;rw [ha,hn] at e2;obtain⟨x,x',K1,K2,s1,s2,s3,s4,s5⟩:=Yt G2 (by rw [bNew,bNew];omega) h2 hl hi;have G3:Good b K2 _:=s4;let gz:=upd (upd (upd g H.next ([zI,zI,zI,zI,zB,zN].map .av)) (H.next+1) (e.av.map .av)) q (bf { c with l:=c.l.eraseIdx i });have q2:gz (H.next+1)=some (e.av.map .av):=by simp only [gz];rw [upd_ne (by omega),upd_same]
  have q1:gz H.next=some ([zI,zI,zI,zI,zB,zN].map .av):=by simp only [gz];rw [upd_ne (by omega),upd_ne (by omega),upd_same]
  have l2:=G3.loads q2 (i:=0) (n:=6) (xs:=e.av) rfl rfl (by decide);obtain⟨K3,t1,t2,t3,t4⟩:=G3.stores (by rw [s5.base,bNew,bNew];exact hb) q1 (i:=0) (n:=6) (vs:=e.av) (by decide) rfl (jJ _);have l3:=t2.loads upd_same (i:=0) (n:=6) (xs:=e.av) rfl rfl (by decide);have w1:=wrap_i64 (a:=(i:Int)+1) (by omega) (by omega);have hdr:c.drop line={ c with l:=c.l.eraseIdx i }:=by simp [Cache.drop,ha]
  simp -implicitDefEqProofs only [Nat.reduceAdd,setAt,xq_,hq_,zaa,zad,exists_eq_left',XH,e1,BP,lY,hf,zaz,zaM,hb0,e2,aW,w1,s1,s2,s3,l2,t1,l3,hdr];have n1:g H.next=none:=G.isNone (zac _)
  have n2:g (H.next+1)=none:=G.isNone (by omega);exact⟨t2.sub (((((qg.refl g).more n1 _).more n2 _).both q _).more (xu n1 (by omega)) _),(((Step.new _ G.1).trans (Step.new _ (G.new _).1)).trans s5).trans t3⟩
end
section
variable {b:Nat}{H:aj}{g:Store}{q:Nat}
theorem SA(G:Good b H g)(hb:H.base<=b){c:Cache}(h:g q=some (bf c))(hl:c.l.length < 1000000)(hs0:1<=c.sets)(hk:0<=c.clock/\c.clock < 1000000000)(e:Ent){x:AV}(hel:e.data.length < 1000000000)(hx:jT H x e.data):
  ∃H',cl 157 [.ref q 0 0,.agg (e.avx x)] H=some (I (c.put e).2,H')/\Good b H' (upd g q (bf (c.put e).1))/\Step b H H':=by
 have hq:=G.lt h;have hb0:H.base<=H.next:=zay hb G.1
 have ax:=aa3 (p:=e) hx.one;have e0:=Sr (H.new (.blk 0 93 (e.avx x))) e hel (hx.new _);have ll:(e.avx x).length=6:=rfl;have lt:(e.avx x).take 6=e.avx x:=rfl;have l6:(e.avx x).drop 6=[]:=rfl;let H1:=H.new (.blk 0 93 e.av);have G1:Good b H1 g:=G.new _;have lf:e.av[2]?=some (I e.line):=rfl;refine ji rfl rfl (ajS _ _ _ _) ?_;by_cases hneg:e.line < 0
 ·have hp:c.put e=(c,1):=by simp only [Cache.put];rw [if_pos hneg]
  rw [hp];refine⟨H1,?_,by rw [dN h];exact G1,Step.new _ G.1⟩;simp -implicitDefEqProofs only [Nat.reduceLT,setAt,xq_,hq_,LP,aA ax,ll,lt,l6,e0,hb0,lf,hneg];rfl
 ·have e1:=Ep G1 h hl e.line;cases ha:c.at_ e.line with
  | some i=>
   rw [ha] at e1;have hn:BR (some i)=(i:Int):=rfl;rw [hn] at e1;have h0:(0:Int)<=i:=by omega
   have hi:i < c.l.length:=zbw.1 ha |>.1
   obtain⟨o,ho⟩:∃o,c.l[i]?=some o:=⟨_,zab hi⟩
   obtain⟨y,hy0,cy⟩:=G.seq h (i:=0) rfl;have c1:=cy.new (.blk 0 93 e.av);have y1:=c1.load;have hs:=c1.is (n:=c.l.length) (by decide) (bn bT c.l);have e3:=hs.ix (k:=.i64) (i:=(i:Int)) (by omega) (by omega);rw [zar] at e3;have e4:=hs.ahJ (i:=i) (o:=3) hi (by decide);rw [Ej bT c.l i o ho (by decide)] at e4;let e':Ent:={ e with used:=o.used }
   let H2:=H.new (.blk 0 93 e'.av);have G2:Good b H2 g:=G.new _;have c2:=cy.new (.blk 0 93 e'.av);have y2:=c2.load;have hs2:=c2.is (n:=c.l.length) (by decide) (bn bT c.l);have e5:=hs2.ix (k:=.i64) (i:=(i:Int)) (by omega) (by omega);rw [zar] at e5;obtain⟨r,gg,off,p1,p2⟩:=MS G2 hb h c2 (e':=e') ho;obtain⟨H3,t1,t2,t3,t4⟩:=p2 6 0 (.agg e'.av) rfl (jJ e') (by decide) (by simp only [dD];rfl);rw [p1] at e3 e4 e5;rw [oH] at e4;have ou:o.av[3]?=some (I o.used):=rfl;simp only [za0,ou,zai] at e4;rw [zbm] at t1;have hp:c.put e=({ c with l:=c.l.set i e' },0):=by
    simp only [Cache.put];rw [if_neg hneg,ha];simp only [e',zaw,ho,zaz]
   rw [hp];refine⟨H3,?_,t2,(Step.new _ G.1).trans t3⟩;simp only [H1,Ent.av] at e1 y1 e3 e4;simp only [H2,e',Ent.av] at y2 e5 t1;simp -implicitDefEqProofs only [Nat.reduceLT,Nat.reduceAdd,setAt,xq_,hq_,LP,aA ax,ll,lt,l6,e0,hb0,hneg,e1,h0,y1,e3,e4,Ent.av,y2,e5,t1]
  | none=>
   rw [ha] at e1;have hn:BR (none:Option Nat)=-1:=rfl;rw [hn] at e1;have e2:=MR G1 h hl hs0 e.line;simp only [H1] at e1 e2;cases hf:c.full e.line with
   | true=>
    have hp:c.put e=(c,5):=by simp only [Cache.put];rw [if_neg hneg,ha];simp only [hf,if_true]
    rw [hp];rw [hf] at e2;refine⟨H1,?_,by rw [dN h];exact G1,Step.new _ G.1⟩;simp -implicitDefEqProofs only [Nat.reduceLT,Int.reduceLE,Int.reduceNeg,setAt,xq_,hq_,LP,aA ax,ll,lt,l6,e0,hb0,lf,hneg,e1,e2];rfl
   | false=>
    rw [hf] at e2;let e':Ent:={ e with used:=c.clock+1 }
    have hp:c.put e=({ c with l:=c.l++[e'],clock:=c.clock+1 },0):=by simp only [Cache.put];rw [if_neg hneg,ha];simp only [hf,zah,if_false];rfl
    rw [hp];have F1:=G.newObj (ty:=93) (xs:=e.av) (jJ e);have f1:upd g H.next (e.av.map .av) q=some (bf c):=by rw [upd_ne (by omega)];exact h
    have l1:=F1.load f1 (i:=3) (x:=I c.clock) rfl;have w1:=wrap_i64 (a:=c.clock+1) (by omega) (by omega);obtain⟨H2,s1,F2,s3,s4⟩:=F1.store hb f1 (i:=3) (v:=I (c.clock+1)) (by simp [bf]) bP;have f2:upd (upd g H.next (e.av.map .av)) q ((bf c).set 3 (.av (I (c.clock+1)))) q=some (bf { c with clock:=c.clock+1 }):=upd_same;have l2:=F2.load f2 (i:=3) (x:=I (c.clock+1)) rfl;have f3:upd (upd g H.next (e.av.map .av)) q ((bf c).set 3 (.av (I (c.clock+1)))) H.next=some (e.av.map .av):=by rw [upd_ne (by omega),upd_same]
    obtain⟨H3,t1,F3,t3,t4⟩:=F2.store (by rw [s3.base];exact hb) f3 (i:=3) (v:=I (c.clock+1)) (by simp [Ent.av]) bP;have f4:upd (upd (upd g H.next (e.av.map .av)) q ((bf c).set 3 (.av (I (c.clock+1))))) H.next ((e.av.map .av).set 3 (.av (I (c.clock+1)))) q=some (bf { c with clock:=c.clock+1 }):=by rw [upd_ne (by omega)];exact f2
    have l4:=F3.loads upd_same (i:=0) (n:=6) (xs:=e'.av) rfl rfl (by decide);obtain⟨y,hy,cy⟩:=F3.seq f4 (i:=0) rfl;obtain⟨x',K1,K2,a1,a2,a3,a4⟩:=(F3.new (.blk 0 93 e'.av)).append (e:=93) (by_:=64) (n:=c.l.length) (by rw [bNew,t3.base,s3.base];exact hb) f4 (i:=0) rfl (by decide) (bn bT c.l) (cy.new _) (jy (ex:=true) (n:=1) (m:=6) (l:=e'.av) rfl) (jJ e') (by unfold most;omega) (by unfold most;omega);refine⟨K2,?_,?_,(((Step.new _ G.1).trans s3).trans t3).trans ((Step.new _ F3.1).trans a4)⟩
    ·simp -implicitDefEqProofs only [Nat.reduceLT,Int.reduceLE,Int.reduceNeg,Nat.reduceLeDiff,setAt,xq_,hq_,LP,aA ax,ll,lt,l6,e0,hb0,lf,hneg,e1,e2,l1,aW,w1,s1,l2,t1,hy,l4,ab4,zbd,jw (m:=6) (z:=[zI,zI,zI,zI,zB,zN]) (v:=.agg e'.av) rfl rfl (jJ e'),a1,a2]
    ·refine a3.sub λq' cs hq'=> ?_;have n1:g H.next=none:=G.isNone (zac _)
     unfold upd at hq' ⊢;by_cases e3:q'=q
     ·rw [if_pos e3] at hq' ⊢;cases hq';simp [bf]
     ·rw [if_neg e3] at hq' ⊢;have:q'≠H.next:=λe4=> by rw [e4,n1] at hq';cases hq'
      rw [if_neg this,if_neg e3,if_neg this];exact hq'
end
theorem MV:∀(es:List (Int × AV)) (n:Int) (v:AV),GV es n v=mF es n v
 | [],_,_=> rfl
 | (k,w)::es,n,v=> by
  simp only [GV,mF];split
  ·rfl
  ·rw [MV es n v]
theorem Ju {α:Type}:∀{es:List (Int × α)} {n:Int} {v:α} {j:Nat} {n':Int} {w:α},(es.map (·.1)).Nodup->(mF es n v)[j]?=some (n',w)->(n'=n/\w=v)∨(n'≠n/\es[j]?=some (n',w))
 | [],n,v,j,n',w,_,h=> by
  simp only [mF] at h;cases j with
  | zero=> simp only [zaZ,zaa,zad] at h;exact .inl ⟨h.1.symm,h.2.symm⟩
  | succ j=> simp at h
 | (k0,v0)::es,n,v,j,n',w,hn,h=> by
  simp only [zaA,List.nodup_cons] at hn;simp only [mF] at h;split at h
  ·rename_i e;cases j with
   | zero=> simp only [zaZ,zaa,zad] at h;exact .inl ⟨h.1.symm,h.2.symm⟩
   | succ j=>
    simp only [zbH] at h;refine .inr ⟨λe'=> hn.1 ?_,by simpa using h⟩;rw [e,<-e'];exact zaO.2 ⟨_,zaq h,rfl⟩
  ·rename_i e;cases j with
   | zero=>
    simp only [zaZ,zaa,zad] at h;refine .inr ⟨λe'=> e (by rw [h.1,e']),by simp [h.1,h.2]⟩
   | succ j=>
    simp only [zbH] at h;rcases Ju hn.2 h with h' | ⟨h1,h2⟩
    ·exact .inl h'
    ·exact .inr ⟨h1,by simpa using h2⟩
theorem Gu {α β:Type}:∀{es:List (Int × α)} {az:List (Int × β)} {n:Int} {v:α} {w:β},az.map (·.1)=es.map (·.1)->(mF az n w).map (·.1)=(mF es n v).map (·.1)
 | [],[],_,_,_,_=> rfl
 | [],_::_,_,_,_,h=> by simp at h
 | _::_,[],_,_,_,h=> by simp at h
 | (k,v0)::es,(k',w0)::az,n,v,w,h=> by
  simp only [zaA,zbX] at h;obtain⟨rfl,h⟩:=h;simp only [mF];split
  ·simp [h]
  ·simp only [zaA,zbX,true_and];exact Gu h
section
variable {b:Nat}{H:aj}{g:Store}{q:Nat}{cs:List Cell}
theorem Good.Jv(G:Good b H g)(h:g q=some cs){i m:Nat}{k:IntKind}{es:List (Int × List AV)}(hi:cs[i]?=some (.maps k m es))(hnd:(es.map (·.1)).Nodup)(n:Int):
  ∃r x,ld (.ref q 0 i) H=some (.mp r,H)/\lk k (.slice none 0 0) (.mp r) (.s (.int k n)) false H=some (x,H)/\Own b H x m ((iV es n).getD [])/\nameOf x≠some q/\q < H.next/\(∀r',nameOf x=some r'->b<=r')/\
   ∀H1 x' l',H.next<=H1.next->H1.base<=b->(∀r',r' < H.next->nameOf x≠some r'->H1.get r'=H.get r')->Fit H H1 x x' m l'->
    ∃H',mup k (.mp r) (.s (.int k n)) x' H1=some (aK,H')/\Good b H' (upd g q (cs.set i (.maps k m (mF es n l'))))/\Step b H1 H'/\H'.next=H1.next:=by
 obtain⟨h0,τ,hR⟩:=G;have R:=hR q cs h;obtain⟨ty,xs,h1,h2,h3,h4⟩:=R.blk;have hqn:=R.hi;have hlt:i < xs.length:=by rw [h2];exact(zaf.1 hi).1
 have hx:xs[i]?=some (xs[i]'hlt):=zab hlt;have:=h4 i _ _ hi hx;simp only [CR] at this;obtain⟨aes,⟨r,e,t1,t2,t3,t4⟩,a2,a3⟩:=this;rw [e] at hx;have hrq:q≠r:=by intro e;subst e;rw [R.tag] at t1;cases t1
 obtain⟨x,x1,x2⟩:∃x,OS b H τ (q,i+1,1,n) x m ((iV es n).getD [])/\lk k (.slice none 0 0) (.mp r) (.s (.int k n)) false H=some (x,H):=by
  cases hn:iV es n with
  | none=>
   have hf:nD aes n=none:=by rw [qp];exact(ML a2).1 hn
   refine⟨zN,.inl ⟨rfl,rfl⟩,?_⟩;simp only [lk,jl,aS,zai,lkO,t4,and_self,if_true,hf];rfl
  | some l=>
   obtain⟨j,w,b1,b2,b3⟩:=Eo a2 hn;refine⟨w,a3 j n l w b2 b3,?_⟩;simp only [lk,jl,aS,zai,lkO,t4,and_self,if_true,qp,b1];rfl
 have htag:∀r',nameOf x=some r'->τ r'=some (q,i+1,1,n)/\b<=r':=by
  intro r' hr;rcases x1 with⟨rfl,_⟩ | ⟨r0,gg,off,n',cap,ex,ty',all,rfl,k1,k2,_⟩
  ·cases hr
  ·simp only [nameOf,zaa] at hr;subst hr;exact⟨k1,k2⟩
 have hxq:nameOf x≠some q:=λe=> by have:=(htag q e).1;rw [R.tag] at this;cases this
 have hxr:nameOf x≠some r:=λe=> by have:=(htag r e).1;rw [t1] at this;simp at this
 refine⟨r,x,by rw [dJ h1,hx];rfl,x2,x1.own,hxq,hqn,λr' hr=> (htag r' hr).2,λH1 x' l' hn hb hk hf=> ?_⟩;have hg1:H1.get r=.map k aes:=by rw [hk r t3 hxr,t4]
 refine⟨H1.put r (.map k (GV aes n x')),?_,?_,Step.put _ t2,rfl⟩
 ·simp only [mup,hg1];rw [if_pos ⟨trivial,trivial,by omega⟩]
 ·refine uG (τ':=λr'=> if H.next<=r' then some (q,i+1,1,n) else τ r') h0 hR (show H.next<=H1.next from hn) (λr' hr ht=> ⟨by rw [if_neg (by omega)],?_⟩)
   ⟨by rw [if_neg (by omega)];exact R.tag,R.lo,show q < H1.next by omega,rX (xs:=xs) (by rw [get_put,if_neg hrq,hk q hqn hxq];exact h1) (R.tyl _ _ _ h1),ty,xs,by rw [get_put,if_neg hrq,hk q hqn hxq];exact h1,by simp [h2],h3,λj cc y hc hy=> ?_⟩
  ·rw [get_put,if_neg (by intro e;subst e;exact ht _ _ _ t1)];exact hk r' hr λe=> ht _ _ _ (htag r' e).1
  ·rcases kQ hc with⟨rfl,rfl⟩ | ⟨hj,hc⟩
   ·rw [hx] at hy;cases hy;refine⟨mF aes n x',⟨r,rfl,by simp only;rw [if_neg (by omega)];exact t1,t2,show r < H1.next by omega,by rw [get_put,if_pos rfl,MV]⟩,Gu a2,λj' n' cells y' h5 h6=> ?_⟩;rcases Ju hnd h5 with⟨rfl,rfl⟩ | ⟨hne,h5⟩
    ·rcases Ju (by rw [a2];exact hnd) h6 with⟨_,rfl⟩ | ⟨hne,_⟩
     ·rcases hf with hf | ⟨r0,gg,off,n'',cap,ex,ty',all,rfl,k1,k2,k3,k4,k5⟩
      ·exact .inl hf
      ·have hr0:r0≠r:=by
        rcases k1 with k1 | k1
        ·intro e;subst e;exact hxr k1
        ·omega
       refine .inr ⟨r0,gg,off,n'',cap,ex,ty',all,rfl,?_,?_,k2,k3,by rw [get_put,if_neg hr0];exact k4,k5⟩
       ·show(if H.next<=r0 then some (q,j+1,1,n') else τ r0)=some (q,j+1,1,n');split
        ·rfl
        ·rcases k1 with k1 | k1
         ·exact(htag r0 k1).1
         ·omega
       ·rcases k1 with k1 | k1
        ·exact(htag r0 k1).2
        ·omega
     ·exact absurd rfl hne
    ·rcases Ju (by rw [a2];exact hnd) h6 with⟨h7,_⟩ | ⟨_,h6⟩
     ·exact absurd h7 hne
     ·refine(a3 j' n' cells y' h5 h6).keep (show H.next<=H1.next from hn) λr' hr ht=> ⟨by rw [if_neg (by omega)];exact ht,?_⟩
      rw [get_put,if_neg (by intro e;subst e;rw [t1] at ht;simp at ht)];refine hk r' hr λe=> ?_;have:=(htag r' e).1;rw [this] at ht;simp only [zaa,zad,true_and] at ht;exact hne ht.symm
   ·refine(h4 j cc y hc hy).keep (show H.next<=H1.next from hn) λr' s t hr ht=> ⟨by rw [if_neg (by omega)];exact ht,?_⟩
    rw [get_put,if_neg (by intro e;subst e;rw [t1] at ht;simp only [zaa,zad,zb5] at ht;exact hj ht.2.1.symm)];refine hk r' hr λe=> ?_;have:=(htag r' e).1;rw [this] at ht;simp only [zaa,zad,zb5] at ht;exact hj ht.2.1.symm
theorem Good.afV(G:Good b H g)(h:g q=some cs){i m:Nat}{k:IntKind}{es:List (Int × List AV)}(hi:cs[i]?=some (.maps k m es)):
  ∃r aes,ld (.ref q 0 i) H=some (.mp r,H)/\r < H.next/\H.get r=.map k aes/\aes.map (·.1)=es.map (·.1):=by
 obtain⟨h0,τ,hR⟩:=G;have R:=hR q cs h;obtain⟨ty,xs,h1,h2,h3,h4⟩:=R.blk;have hlt:i < xs.length:=by rw [h2];exact(zaf.1 hi).1
 have hx:xs[i]?=some (xs[i]'hlt):=zab hlt;have:=h4 i _ _ hi hx;simp only [CR] at this;obtain⟨aes,⟨r,e,t1,t2,t3,t4⟩,a2,a3⟩:=this;rw [e] at hx;exact⟨r,aes,by rw [dJ h1,hx];rfl,t3,t4,a2⟩
end
end
end Go.Proofs.YthmoogcacpmjiaaGreat
