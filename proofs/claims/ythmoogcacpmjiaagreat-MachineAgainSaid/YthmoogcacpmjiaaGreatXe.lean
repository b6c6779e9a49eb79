/-
  Own work: an interpreter over named blocks, its soundness, and what the functions of this seat compute (part 5 of 11).
  Conditions: those of the statement alone.
-/
import Derived.Test.YthmoogcacpmjiaaGreatXd
set_option linter.all false
set_option linter.unusedSectionVars false
set_option linter.unusedVariables false
set_option linter.unusedSimpArgs false
namespace Go.Proofs.YthmoogcacpmjiaaGreat
noncomputable section
theorem Ju {d:Nat}{α:Type}{enc:α->List AV}(h:∀a,∀x∈enc a,Frz d x)(l:List α):∀x∈l.flatMap enc,Frz d x:=λx hx=> by
 obtain⟨a,_,ha⟩:=za5.1 hx;exact h a x ha
theorem af8(o:Opn):∀x∈o.av,Frz 8 x:=λx hx=> by
 simp only [Opn.av,zam,zaI,or_false] at hx;rcases hx with rfl | rfl | rfl <;> exact dW
theorem Yr(o:Evn):∀x∈o.av,Frz 8 x:=λx hx=> by
 simp only [Evn.av,zam,zaI,or_false] at hx;rcases hx with rfl | rfl | rfl | rfl <;> exact dW
theorem abf(H:aj)(l:List Opn)(hl:l.length < 1000000000){x:AV}(hx:aG H x 3 l.length (l.flatMap Opn.av))(h0:l=[]->x=zN)(hn:l≠[]->bi .eql 98 x zN=some (B false)):cl 91 [x] H=some (vsl 3 Opn.av l,H):=by
 by_cases h:l=[]
 ·rw [h0 h];subst h;refine eu rfl rfl (ajD _ _ _ (r:=(zN,H.guard)) ?_) (by rw [dQ];exact fJ);have e:bi .eql 98 zN zN=some (B true):=by kernel_rfl
  simp -implicitDefEqProofs only [xq_,afX,e]
 ·have h1:l.length≠0:=λe=> h (zan e);have e2:=nR (e:=86) (by_:=24) (r:=H.guard.next) (H:=H.guard.new (.blk 0 86 [])) nP (hx.guard.new _) (xB lC l) h1 (by unfold most;omega) (by unfold most;omega);simp only [yU,nNew] at e2;refine eu rfl rfl (ajD _ _ _ (r:=(.sl (H.next+1) 0 0 3 l.length l.length false,(H.guard.new (.blk 0 86 [])).new (.blk 0 (86+eH) (l.flatMap Opn.av)))) ?_) ?_
  ·simp -implicitDefEqProofs only [xq_,afX,hn h,ahD,rG,e2,zba,zaT]
  ·rw [Bh h];refine gZ (by omega) (cells:=l.flatMap Opn.av) ?_ (dZ _ λx hx=> Ju af8 l x hx _ _);simp only [aX,iD,nNew,yU,if_true];rw [if_pos (by rw [bf dw,za7];exact⟨trivial,zac _⟩),zaP,zas (by rw [bf dw];exact zac _)]
theorem ML(H:aj)(n m:Int):cl 83 [I n,I m] H=some (B (within n m),H):=by
 refine aN rfl rfl (aov _ _ _ _ ?_);by_cases h:1<=n
 ·simp -implicitDefEqProofs only [xq_,afU,h,within,zaO]
 ·simp -implicitDefEqProofs only [xq_,afU,h,within,zaQ]
theorem SC(H:aj)(c:Cfg)(h:c.ok=true):cl 54 [.agg c.av] H=some (I 0,H):=by
 refine aW rfl rfl (ajg _ _ _) ?_ dW;have w:=λH n m=> ML H n m;have e1:=λH=> (jr H c.init).lnS;simp only [Cfg.ok,zaj,decide_eq_true_eq] at h;obtain⟨⟨⟨⟨⟨⟨⟨a,b⟩,d⟩,f⟩,g⟩,i⟩,j⟩,k⟩:=h;have t:∀n m,1<=n/\n<=m->within n m=true:=λn m h=> by simp [within,h.1,h.2]
 have hm:IntKind.wrap .i64 (c.lines*c.words)=c.lines*c.words:=by
  have:c.lines*c.words<=8*4:=zbV b.2 d.2 (by omega) (by omega);have:0<=c.lines*c.words:=zcf (by omega) (by omega);exact wrap_i64 (by omega) (by omega)
 have k':¬c.lines*c.words < c.init.length:=by omega
 simp -implicitDefEqProofs only [Nat.reduceLT,xq_,hq_,aaZ,aB,Cfg.av,w,t _ _ a,t _ _ b,t _ _ d,t _ _ f,t _ _ g,t _ _ i,t _ _ j,e1,gQ,hm,k',zae]
theorem abg(H:aj)(c:Cfg)(h:c.ok=true):cl 166 [.agg c.av] H=some (I c.jA,H):=by
 refine aW rfl rfl (akV _ _ _) ?_ dW;simp only [Cfg.ok,zaj,decide_eq_true_eq] at h;obtain⟨⟨⟨⟨⟨⟨⟨a,b⟩,d⟩,f⟩,g⟩,i⟩,j⟩,k⟩:=h;have hm:IntKind.wrap .i64 (c.lines*c.words)=c.lines*c.words:=by
  have:c.lines*c.words<=8*4:=zbV b.2 d.2 (by omega) (by omega);have:0<=c.lines*c.words:=zcf (by omega) (by omega);exact wrap_i64 (by omega) (by omega)
 simp -implicitDefEqProofs only [Nat.reduceLT,xq_,hq_,ad9,aB,Cfg.av,gQ,hm,Cfg.jA]
structure aqd(c:Cfg):Prop where
 nodes:1<=c.nodes/\c.nodes<=6
 lines:1<=c.lines/\c.lines<=8
 words:1<=c.words/\c.words<=4
 sets:1<=c.sets/\c.sets<=4
 ways:1<=c.ways/\c.ways<=3
 out:1<=c.out/\c.out<=8
 inn:1<=c.inn/\c.inn<=8
 init:(c.init.length:Int)<=c.lines*c.words
 jA:1<=c.lines*c.words/\c.lines*c.words<=32
theorem qx {c:Cfg}(h:c.ok=true):aqd c:=by
 simp only [Cfg.ok,zaj,decide_eq_true_eq] at h;obtain⟨⟨⟨⟨⟨⟨⟨a,b⟩,d⟩,f⟩,g⟩,i⟩,j⟩,k⟩:=h;have h1:c.lines*c.words<=8*4:=zbV b.2 d.2 (by omega) (by omega);have h2:1*1<=c.lines*c.words:=zbV b.1 d.1 (by omega) (by omega);exact⟨a,b,d,f,g,i,j,k,by omega,by omega⟩
theorem af9(H:aj)(n m:Int)(h:1<=m):cl 178 [I n,I m] H=some (I (Ae n m),H):=by
 refine aN rfl rfl (ak2 _ _ _ _ ?_);by_cases h0:n < 0
 ·simp -implicitDefEqProofs only [Int.reduceNeg,xq_,XY,h0,Ae]
 ·have e:n.tmod m=n % m:=zbJ (by omega);simp -implicitDefEqProofs only [Int.reduceNeg,xq_,XY,h0,qZ (show m≠0 by omega),Ae,e]
theorem Em(H:aj)(c:Cfg)(h:c.ok=true)(line:Int):cl 139 [.agg c.av,I line] H=some (I (c.ig line),H):=by
 have B:=qx h;refine aW rfl rfl (akr _ _ _ _) ?_ dW;have e:=λH=> af9 H line c.nodes B.nodes.1;simp -implicitDefEqProofs only [Nat.reduceLT,xq_,hq_,adO,aB,Cfg.av,e,Cfg.ig]
theorem En(H:aj)(c:Cfg)(h:c.ok=true)(a:Int):cl 114 [.agg c.av,I a] H=some (.tup [I (c.dh a),I (c.iJ a)],H):=by
 have B:=qx h;refine aW rfl rfl (aj9 _ _ _ _) ?_ (rD λx hx=> by
  simp only [zam,zaI,or_false] at hx;rcases hx with rfl | rfl <;> exact dW)
 have e:=λH=> abg H c h;by_cases h0:a < 0
 ·simp -implicitDefEqProofs only [Nat.reduceLT,Int.reduceNeg,xq_,hq_,Rt,aB (dH c),h0,Cfg.dh,Cfg.iJ,true_or]
 ·by_cases h1:c.jA<=a
  ·simp -implicitDefEqProofs only [Nat.reduceLT,Int.reduceNeg,xq_,hq_,Rt,aB (dH c),h0,h1,Cfg.dh,Cfg.iJ,or_true,e]
  ·have q:a.tdiv c.words=a / c.words:=Int.tdiv_eq_ediv_of_nonneg (by omega);have r:a.tmod c.words=a % c.words:=zbJ (by omega);have q1:0<=a / c.words:=Int.ediv_nonneg (by omega) (by have:=B.words;omega);have q2:a / c.words<=a:=Int.ediv_le_self _ (by omega);have q3:c.jA<=32:=B.jA.2;have w:=wrap_i64 (a:=a / c.words) (by omega) (by omega);have z:c.words≠0:=by have:=B.words;omega
   have l2:c.av[2]?=some (I c.words):=rfl;simp -implicitDefEqProofs only [Nat.reduceLT,Int.reduceNeg,xq_,hq_,Rt,aB (dH c),h0,h1,Cfg.dh,Cfg.iJ,or_false,e,l2,afa z,qZ z,q,r,w]
def Cc(o:Option Nat):Int:=match o with
 | some i=> (i:Int)
 | none=> -1
theorem nK {α:Type}{p:α->Bool}:∀(l:List α) (i:Nat),(∀j a,j < i->l[j]?=some a->p a=false)->l.findIdx? p=((l.drop i).findIdx? p).map (· +i)
 | l,0,_=> by cases h:l.findIdx? p <;> simp [h]
 | [],i+1,_=> by simp
 | a::l,i+1,h=> by
  have h0:=h 0 a (by omega) rfl;rw [List.findIdx?_cons,h0,List.drop_succ_cons,nK l i λj b hj hb=> h (j+1) b (by omega) hb];simp only [zai,if_false,Option.map_map]
  congr 1
theorem PO(H:aj){α:Type}{enc:α->List AV}(he:∀a,(enc a).length=3){x f:AV}{l:List α}(hx:aG H x 3 l.length (l.flatMap enc))(hl:l.length < 1000000000)(p:α->Bool)
  (hp:∀a∈l,qJ Tryz.prog cl f [.agg (enc a)] H=some (B (p a),H)):cl 127 [x,f] H=some (I (Cc (l.findIdx? p)),H):=by
 have e1:=hx.lnS;have e2:∀i a,l[i]?=some a->lda 3 (cZ x i) H=some (.agg (enc a),H):=λi a hi=> iW he hx hi;refine aN rfl rfl (ako _ _ _ _ ?_);have key:∀k i,i+k=l.length->(∀j a,j < i->l[j]?=some a->p a=false)->BD cl [x,f,I l.length,I i] H=some (I (Cc (l.findIdx? p)),H):=by
  intro k
  induction k with
  | zero=>
   intro i hi hf;have h1:¬(i:Int) < l.length:=by omega
   have h2:l.findIdx? p=none:=by rw [nK l i hf,zaU (by omega)];rfl
   rw [Ry];simp -implicitDefEqProofs only [Int.reduceNeg,xq_,h1,h2,Cc]
  | succ k ih=>
   intro i hi hf;have h1:(i:Int) < l.length:=by omega
   have h3:=hx.ix (k:=.i64) (i:=(i:Int)) (by omega) h1;obtain⟨a,ha⟩:∃a,l[i]?=some a:=⟨_,zab (by omega)⟩
   have h4:=e2 i a ha;have h5:=hp a (zau ha);rw [zar] at h3;rw [Ry];cases hpa:p a with
   | true=>
    have h2:l.findIdx? p=some i:=by
     rw [nK l i hf,zbn (by omega),List.findIdx?_cons];rw [zab (by omega)] at ha;simp only [zaa] at ha;rw [ha,hpa];simp
    rw [hpa] at h5;simp -implicitDefEqProofs only [Int.reduceNeg,xq_,h1,h2,h3,h4,h5,Cc]
   | false=>
    rw [hpa] at h5;have h6:(i:Int)+1=((i+1:Nat):Int):=by omega
    have h7:=wrap_i64 (a:=((i+1:Nat):Int)) (by omega) (by omega);have:=ih (i+1) (by omega) λj b hj hb=> by
     by_cases hji:j=i
     ·subst hji;rw [ha] at hb;cases hb;exact hpa
     ·exact hf j b (by omega) hb
    simp -implicitDefEqProofs only [Int.reduceNeg,xq_,h1,h3,h4,h5,aZ,h6,h7,this]
 have:=key l.length 0 (by omega) (λj a hj=> by omega);simp -implicitDefEqProofs only [xq_,adL,e1];exact this
theorem MN(H:aj){α:Type}{enc:α->List AV}(he:∀a,(enc a).length=6){x f:AV}{l:List α}(hx:aG H x 6 l.length (l.flatMap enc))(hl:l.length < 1000000000)(p:α->Bool)
  (hp:∀a∈l,qJ Tryz.prog cl f [.agg (enc a)] H=some (B (p a),H)):cl 119 [x,f] H=some (I (Cc (l.findIdx? p)),H):=by
 have e1:=hx.lnS;have e2:∀i a,l[i]?=some a->lda 6 (cZ x i) H=some (.agg (enc a),H):=λi a hi=> iW he hx hi;refine aN rfl rfl (akh _ _ _ _ ?_);have key:∀k i,i+k=l.length->(∀j a,j < i->l[j]?=some a->p a=false)->Bv cl [x,f,I l.length,I i] H=some (I (Cc (l.findIdx? p)),H):=by
  intro k
  induction k with
  | zero=>
   intro i hi hf;have h1:¬(i:Int) < l.length:=by omega
   have h2:l.findIdx? p=none:=by rw [nK l i hf,zaU (by omega)];rfl
   rw [Ru];simp -implicitDefEqProofs only [Int.reduceNeg,xq_,h1,h2,Cc]
  | succ k ih=>
   intro i hi hf;have h1:(i:Int) < l.length:=by omega
   have h3:=hx.ix (k:=.i64) (i:=(i:Int)) (by omega) h1;obtain⟨a,ha⟩:∃a,l[i]?=some a:=⟨_,zab (by omega)⟩
   have h4:=e2 i a ha;have h5:=hp a (zau ha);rw [zar] at h3;rw [Ru];cases hpa:p a with
   | true=>
    have h2:l.findIdx? p=some i:=by
     rw [nK l i hf,zbn (by omega),List.findIdx?_cons];rw [zab (by omega)] at ha;simp only [zaa] at ha;rw [ha,hpa];simp
    rw [hpa] at h5;simp -implicitDefEqProofs only [Int.reduceNeg,xq_,h1,h2,h3,h4,h5,Cc]
   | false=>
    rw [hpa] at h5;have h6:(i:Int)+1=((i+1:Nat):Int):=by omega
    have h7:=wrap_i64 (a:=((i+1:Nat):Int)) (by omega) (by omega);have:=ih (i+1) (by omega) λj b hj hb=> by
     by_cases hji:j=i
     ·subst hji;rw [ha] at hb;cases hb;exact hpa
     ·exact hf j b (by omega) hb
    simp -implicitDefEqProofs only [Int.reduceNeg,xq_,h1,h3,h4,h5,aZ,h6,h7,this]
 have:=key l.length 0 (by omega) (λj a hj=> by omega);simp -implicitDefEqProofs only [xq_,adC,e1];exact this
theorem abh(H:aj)(c:Cfg)(h:c.ok=true)(o:Opn):cl 88 [.agg c.av,.agg o.av] H=some (B (c.right o),H):=by
 refine aW rfl rfl (aoA _ _ _ _) ?_ dW;have e:=λH=> En H c h o.addr;have f1:c.right o=(decide (1<=o.kind) && decide (o.kind<=4) && !decide (c.dh o.addr=-1) && (decide (o.value=0) || decide (o.kind=2) || decide (o.kind=3))):=by simp [Cfg.right]
 rw [f1];by_cases a:1<=o.kind;rotate_left
 ·simp -implicitDefEqProofs only [Nat.reduceLT,Int.reduceNeg,xq_,hq_,LZ,aB,Opn.av,e,a,zaQ]
 by_cases b:o.kind<=4;rotate_left
 ·simp -implicitDefEqProofs only [Nat.reduceLT,Int.reduceNeg,xq_,hq_,LZ,aB,Opn.av,e,a,b,zaO,zaQ]
 by_cases d:c.dh o.addr=-1
 ·simp -implicitDefEqProofs only [Nat.reduceLT,Int.reduceNeg,xq_,hq_,LZ,aB,Opn.av,e,a,b,d,zaO,zaQ,zae]
 by_cases f:o.value=0
 ·simp -implicitDefEqProofs only [Nat.reduceLT,Int.reduceNeg,xq_,hq_,LZ,aB,Opn.av,e,a,b,d,f,zal,Bool.true_or]
 by_cases g:o.kind=2
 ·simp -implicitDefEqProofs only [Nat.reduceLT,Int.reduceLE,Int.reduceEq,Int.reduceNeg,xq_,hq_,LZ,aB,Opn.av,e,d,f,g,zal,Bool.true_or,Bool.or_true]
 by_cases i:o.kind=3
 ·simp -implicitDefEqProofs only [Nat.reduceLT,Int.reduceLE,Int.reduceEq,Int.reduceNeg,xq_,hq_,LZ,aB,Opn.av,e,d,f,i,zal,Bool.or_true]
 ·simp -implicitDefEqProofs only [Nat.reduceLT,Int.reduceNeg,xq_,hq_,LZ,aB,Opn.av,e,a,b,d,f,g,i,zal,Bool.or_false,zb0]
theorem PS(H:aj)(c:Cfg)(h:c.ok=true)(o:Opn){r ty:Nat}(hr:r < H.next)(hg:H.get r=.blk 0 ty c.av):cl 87 [.agg o.av,.ref r 0 0] H=some (B (!c.right o),H):=by
 refine aW rfl rfl (aoz _ _ _ _) ?_ dW;have e:=λH=> abh H c h o;have e1:lda 8 (.ref r 0 0) (H.guard.new (.blk 0 86 o.av))=some (.agg (c.av.take 8),_):=fQ (off:=0) (n:=8) (by rw [aQ (by rw [yU];exact hr),ane];exact hg) (zac 8);simp -implicitDefEqProofs only [Nat.reduceLT,xq_,hq_,ajz,aB (lC o),e1,e]
theorem Eo {o:Option Nat}:decide (0<=Cc o)=o.isSome:=by
 cases o with
 | none=> rfl
 | some i=> simp [Cc]
theorem Yt(H:aj)(c:Cfg)(h:c.ok=true){v:AV}{l:List Opn}(hv:aG H v 3 l.length (l.flatMap Opn.av))(hl:l.length < 1000000000){r ty:Nat}(hr:r < H.next)(hg:H.get r=.blk 0 ty c.av):cl 85 [v,.ref r 0 0] H=some (B (!(decide (l.length<=24) && l.all c.right)),H):=by
 refine aW rfl rfl (aox _ _ _ _) ?_ dW;have e1:=hv.guard.lnS;have e2:=PO H.guard (enc:=Opn.av) dw (f:=.fn (.func 87) [] [.ref r 0 0]) hv.guard hl (λo=> !c.right o) (λo _=> by
  rw [xE (by kernel_rfl)];exact PS H.guard c h o hr hg)
 have e3:cl 86 [v,.fn (.func 87) [] [.ref r 0 0]] H.guard=some (B (l.findIdx? λo=> !c.right o).isSome,H.guard):=by
  refine aN rfl rfl (aoy _ _ _ _ ?_);simp -implicitDefEqProofs only [xq_,ajy,e2,Eo]
 have e4:(l.findIdx? λo=> !c.right o).isSome=!l.all c.right:=by
  rw [List.findIdx?_isSome,List.not_all_eq_any_not]
 by_cases h0:l.length<=24
 ·have h1:¬(24:Int) < l.length:=by omega
  simp -implicitDefEqProofs only [xq_,afV,e1,e3,e4,h0,h1,zaO]
 ·have h1:(24:Int) < l.length:=by omega
  simp -implicitDefEqProofs only [xq_,afV,e1,h0,h1,zaQ,zal]
def SE(H:aj)(x:AV)(ps:List (List Opn)):Prop:=
 ∃cells:List AV,aG H x 1 ps.length cells/\∀(i:Nat) v l,cells[i]?=some v->ps[i]?=some l->aG H v 3 l.length (l.flatMap Opn.av)/\(l=[]->v=zN)
theorem SE.gK {H H':aj}{x:AV}{ps:List (List Opn)}(h:SE H x ps)(hn:H.next<=H'.next)(hg:∀r,r < H.next->H'.get r=H.get r):SE H' x ps:=by
 obtain⟨cells,h1,h2⟩:=h;exact⟨cells,h1.gK hn λr _ hr=> hg r hr,λi v l a b=> ⟨(h2 i v l a b).1.gK hn λr _ hr=> hg r hr,(h2 i v l a b).2⟩⟩
theorem yt {n:Nat}{p:Nat->Bool}:∀i,i<=n->(∀j,j < i->p j=false)->(List.range n).findIdx? p=((List.range' i (n - i)).findIdx? p).map (· +i):=by
 intro i hi hf;rw [nK (List.range n) i λj a hj ha=> by
  have:a=j:=by
   rw [zbm (by omega)] at ha
   simpa using ha.symm
  rw [this];exact hf j hj]
 congr 2
 rw [List.range_eq_range',List.drop_range'];simp
theorem PU(H:aj){x f:AV}{n:Nat}{cells:List AV}(hx:aG H x 1 n cells)(hl:n < 1000000000)(p:Nat->Bool)
  (hp:∀i v,cells[i]?=some v->qJ Tryz.prog cl f [v] H=some (B (p i),H)):cl 126 [x,f] H=some (I (Cc ((List.range n).findIdx? p)),H):=by
 have e1:=hx.lnS;have hcl:cells.length=n:=by have:=hx.1;omega
 refine aN rfl rfl (akn _ _ _ _ ?_);have key:∀k i,i+k=n->(∀j,j < i->p j=false)->BA cl [x,f,I n,I i] H=some (I (Cc ((List.range n).findIdx? p)),H):=by
  intro k
  induction k with
  | zero=>
   intro i hi hf;have h1:¬(i:Int) < n:=by omega
   have h2:(List.range n).findIdx? p=none:=by rw [yt i (by omega) hf,show n - i=0 by omega];rfl
   rw [Rx];simp -implicitDefEqProofs only [Int.reduceNeg,xq_,h1,h2,Cc]
  | succ k ih=>
   intro i hi hf;have h1:(i:Int) < n:=by omega
   have h3:=hx.ix (k:=.i64) (i:=(i:Int)) (by omega) h1;obtain⟨v,hv⟩:∃v,cells[i]?=some v:=⟨_,zab (by omega)⟩
   have h4:=hx.ld (i:=i) (by omega);rw [hv] at h4;have h5:=hp i v hv;rw [zar] at h3;rw [Rx];cases hpa:p i with
   | true=>
    have h2:(List.range n).findIdx? p=some i:=by
     rw [yt i (by omega) hf,show n - i=k+1 by omega,List.range'_succ,List.findIdx?_cons,hpa];simp
    rw [hpa] at h5;simp -implicitDefEqProofs only [Int.reduceNeg,xq_,h1,h2,h3,h4,h5,Cc]
   | false=>
    rw [hpa] at h5;have h6:(i:Int)+1=((i+1:Nat):Int):=by omega
    have h7:=wrap_i64 (a:=((i+1:Nat):Int)) (by omega) (by omega);have:=ih (i+1) (by omega) λj hj=> by
     by_cases hji:j=i
     ·rw [hji];exact hpa
     ·exact hf j (by omega)
    simp -implicitDefEqProofs only [Int.reduceNeg,xq_,h1,h3,h4,h5,aZ,h6,h7,this]
 have:=key n 0 (by omega) (λj hj=> by omega);simp -implicitDefEqProofs only [xq_,adJ,e1];exact this
theorem aeB(H:aj)(c:Cfg)(h:c.ok=true){x:AV}{ps:List (List Opn)}(hx:SE H x ps)(hn:ps.length < 1000000000)(hl:∀l∈ps,l.length < 1000000000):cl 55 [.agg c.av,x] H=some (I (if c.pR ps then 0 else 1),H):=by
 refine aW rfl rfl (an5 _ _ _ _) ?_ dW;have hx1:=hx.gK (H':=H.guard.new (.blk 0 40 c.av)) (by rw [nNew,yU];omega) λr hr=> by rw [aQ (by rw [yU];exact hr),ane]
 obtain⟨cells,x1,x2⟩:=hx1;have hcl:cells.length=ps.length:=by have:=x1.1;omega
 let bad:List Opn->Bool:=λl=> !(decide (l.length<=24) && l.all c.right)
 have e2:=PU (H.guard.new (.blk 0 40 c.av)) (f:=.fn (.func 85) [] [.ref H.next 0 0]) x1 hn (λi=> bad (ps.getD i [])) (λi v hv=> by
  have hi:i < ps.length:=by rw [<-hcl];exact(zaf.1 hv).1
  have hpi:ps[i]?=some (ps.getD i []):=by simp [List.getD,zab hi]
  rw [xE (by kernel_rfl)];exact Yt _ c h (x2 i v _ hv hpi).1 (hl _ (zau hpi)) (by rw [nNew,yU];omega) (aK (by rw [yU])))
 have e4:((List.range ps.length).findIdx? λi=> bad (ps.getD i [])).isSome=!(ps.all λl=> decide (l.length<=24) && l.all c.right):=by
  rw [List.findIdx?_isSome,List.not_all_eq_any_not,Bool.eq_iff_iff,List.any_eq_true,List.any_eq_true];constructor
  ·rintro⟨i,hi,hb⟩;have hi:i < ps.length:=zaW.1 hi;exact⟨ps.getD i [],zau (i:=i) (by simp [List.getD,zab hi]),hb⟩
  ·rintro⟨l,hm,hb⟩;obtain⟨i,hi,he⟩:=List.getElem_of_mem hm;have hg:ps.getD i []=l:=by simp [List.getD,zab hi,he]
   exact⟨i,zaW.2 hi,by rw [hg];exact hb⟩
 have e3:cl 84 [x,.fn (.func 85) [] [.ref H.next 0 0]] (H.guard.new (.blk 0 40 c.av))=some (B (!(ps.all λl=> decide (l.length<=24) && l.all c.right)),H.guard.new (.blk 0 40 c.av)):=by
  refine aN rfl rfl (aow _ _ _ _ ?_);simp -implicitDefEqProofs only [xq_,ajx,e2,Eo,e4]
 have l0:c.av[0]?=some (I c.nodes):=rfl;have e5:=x1.lnS;cases hb:ps.all λl=> decide (l.length<=24) && l.all c.right with
 | false=> simp -implicitDefEqProofs only [Nat.reduceLT,xq_,hq_,aa0,aB (dH c),e3,hb,zal,Cfg.pR,zaQ]
 | true=>
  by_cases hc:(ps.length:Int)=c.nodes
  ·simp -implicitDefEqProofs only [Nat.reduceLT,xq_,hq_,aa0,aB (dH c),e3,e5,hb,l0,zae,Cfg.pR,hc]
  ·simp -implicitDefEqProofs only [Nat.reduceLT,xq_,hq_,aa0,aB (dH c),e3,e5,hb,l0,zae,zal,Cfg.pR,zaO,hc]
theorem Jv {c:Cfg}(h:c.ok=true){line:Int}(h0:0<=line)(h1:line < c.lines):c.first line≠[]:=by
 have B:=qx h;unfold Cfg.first
 rw [if_neg (by omega)];intro e;have:=congrArg List.length e;simp only [zaE,List.length_range,zat] at this;have:=B.words;omega
theorem PV {c:Cfg}(h:c.ok=true){line:Int}(h0:0<=line)(h1:line < c.lines){from_:Nat}(hf:(from_:Int)=min (line*c.words) c.init.length):
  setAt (List.replicate c.words.toNat zI) 0 (((c.init.map I).drop from_).take (min (c.init.length - from_) c.words.toNat))=(c.first line).map I:=by
 have B:=qx h;have hw:=B.words;have hlw:0<=line*c.words:=zcf h0 (by omega);unfold Cfg.first
 rw [if_neg (by omega)]
 apply za6
 intro i;have hlen:(((c.init.map I).drop from_).take (min (c.init.length - from_) c.words.toNat)).length=min (c.init.length - from_) c.words.toNat:=by
  rw [zao,zaK,zaE];omega
 rw [kS (by rw [hlen,zb1];omega),hlen];rcases zaR i c.words.toNat with hi | hi
 ·simp only [zaB,zbm hi,zah];by_cases hc:i < c.init.length - from_
  ·rw [if_pos (by omega),Nat.sub_zero,zaA,if_pos (by omega),zaF,zaB];have e:from_=(line*c.words).toNat:=by omega
   rw [e];have hlt:(line*c.words).toNat+i < c.init.length:=by omega
   simp [List.getD,zab hlt]
  ·rw [if_neg (by omega),zbv,if_pos hi];have hge:c.init.length<=(line*c.words).toNat+i:=by omega
   simp [List.getD,zaG hge]
 ·rw [if_neg (by omega),zaG (by simp;omega),zaG (by simp;omega)]
theorem abj(H:aj)(c:Cfg)(h:c.ok=true)(line:Int)(h0:0<=line)(h1:line < c.lines):cl 140 [.agg c.av,I line] H=some (dat (c.first line),H):=by
 have B:=qx h;have hw:=B.words;have hlw:0<=line*c.words:=zcf h0 (by omega);have aqe:line*c.words<=8*4:=zbV (by have:=B.lines;omega) hw.2 (by omega) (by omega);have w:=wrap_i64 (a:=line*c.words) (by omega) (by omega);have l1:c.av[1]?=some (I c.lines):=rfl;have l2:c.av[2]?=some (I c.words):=rfl;have l7:c.av[7]?=some (dat c.init):=rfl;let H1:=(H.guard.new (.blk 0 40 c.av)).new (.blk 0 3 (bI [zI] c.words.toNat));have e1:=Wy (e:=3) (m:=1) (by_:=8) (z:=[zI]) (n:=c.words) (H:=H.guard.new (.blk 0 40 c.av)) rfl rfl (by omega) (by omega) (by decide);have e2:=λH=> (jr H c.init).lnS;have hm:0<=min (line*c.words) (c.init.length:Int):=by omega
 obtain⟨y,e3,e4⟩:=(jr H1 c.init).from_ (k:=.i64) (lo:=min (line*c.words) (c.init.length:Int)) hm (by omega);obtain⟨H2,e5,e6,e7,e8,e9⟩:=ais (H:=H1) (r:=H.next+1) (g:=0) (off:=0) (m:=1) (len:=c.words.toNat) (cap:=c.words.toNat) (ex:=true) (ty:=3) (aK (by rw [nNew,yU])) (by show H.next<=_;omega) (by rw [jH];simp) e4 (xu (uY _) _);refine eu rfl rfl (aks _ _ _ _ (r:=(.sl (H.next+1) 0 0 1 c.words.toNat c.words.toNat true,H2)) ?_) ?_
 ·have n0:¬line < 0:=by omega
  have n1:¬c.lines<=line:=by omega
  simp only [nNew,yU] at e1;simp -implicitDefEqProofs only [Nat.reduceLT,xq_,hq_,adP,aB (dH c),n0,n1,l1,l2,l7,e1,e2,gQ,w,VW,e3,e5,H1]
 ·rw [uo (Jv h h0 h1)];have hf:=PV h h0 h1 (from_:=(min (line*c.words) (c.init.length:Int)).toNat) (by omega);rw [jH,zbt,zbt,hf] at e6;have hlen:(c.first line).length=c.words.toNat:=by
   unfold Cfg.first
   rw [if_neg (by omega)];simp
  rw [hlen];refine gZ (by omega) (cells:=(c.first line).map I) ?_ (dZ _ λx hx=> oZ _ x hx _ _);simp only [aX,e6];rw [if_pos ⟨trivial,by simp [hlen]⟩,zaP,zas (by simp [hlen])]
theorem abk(c:Cfg)(rows:Rows)(n:Int)(r:Row):(AL c rows).set 8 (.map .i64 (G9 (WA (λr=> .agg r.av) rows) n (.agg r.av)))=AL c (mM rows n r):=by
 have:=DN (f:=λr:Row=> AV.agg r.av) rows n r;rw [this];rfl
theorem Yu(H:aj)(hb:H.base<=H.next)(c:Cfg)(h:c.ok=true)(me:Int):∃H' q,cl 92 [.agg c.av,I me] H=some (.ref q 0 0,H')/\Made H H' (upd nil0 q (AL c (c.iM me c.lines.toNat))):=by
 have B:=qx h;let Hb:=H.new (.blk 0 40 c.av);let Hm:=Hb.new (.map .i64 []);let H0:=Hm.new (.blk 0 205 (c.av++[.mp (H.next+1)]));have M0:Made Hb H0 (upd nil0 (H.next+2) (AL c [])):=by
  refine MK (H':=Hm) (by simp only [Hb,nNew];omega) (by simp only [Hm,Hb,nNew]) rfl (λr hr=> aQ hr) (by rw [zbb,dH];rfl) (by simp [AL]) (λr=> if r=H.next+1 then some 8 else none) λi cc x hc hx=> ?_;by_cases hi:i < 8
  ·left;simp only [AL] at hc;rw [zaJ (by simp [Cfg.av];omega),zaB] at hc;rw [zaJ (by simp [Cfg.av];omega)] at hx;rw [hx] at hc;exact(za3 hc).symm
  ·have:i=8:=by
    have:=(zaf.1 hx).1;simp [Cfg.av] at this;omega
   subst this;right;right;cases hc;cases hx;exact⟨H.next+1,.i64,rfl,by simp only [Hb,nNew];omega,by omega,by simp,aK (by simp only [Hb,nNew]),.inl rfl⟩
 have key:∀k i,i+k=c.lines.toNat->∀Hi,Made Hb Hi (upd nil0 (H.next+2) (AL c (c.iM me i)))->∃H',Jf cl [I me,.ref H.next 0 0,.ref (H.next+2) 0 0,I c.lines,I i] Hi=some (.ref (H.next+2) 0 0,H')/\Made Hb H' (upd nil0 (H.next+2) (AL c (c.iM me c.lines.toNat))):=by
  intro k
  induction k with
  | zero=>
   intro i hi Hi M;have h1:¬(i:Int) < c.lines:=by omega
   rw [Xy];refine⟨Hi,?_,by rw [show c.lines.toNat=i by omega];exact M⟩;simp -implicitDefEqProofs only [Int.reduceNeg,xq_,h1]
  | succ k ih=>
   intro i hi Hi M;have h1:(i:Int) < c.lines:=by omega
   have hbx:Hi.get H.next=.blk 0 40 c.av:=by rw [M.same _ (by simp only [Hb,nNew];omega)];exact aK rfl
   have hbn:H.next < Hi.next:=zaw (by simp only [Hb,nNew];omega) M.next
   have e1:lda 8 (.ref H.next 0 0) Hi=some (.agg c.av,Hi):=(fQ (off:=0) (n:=8) hbx (zac 8)).trans rfl;have e2:=Em Hi c h i;have h6:(i:Int)+1=((i+1:Nat):Int):=by omega
   have h7:=wrap_i64 (a:=((i+1:Nat):Int)) (by have:=B.lines;omega) (by have:=B.lines;omega);have tail:∀Hj,Made Hb Hj (upd nil0 (H.next+2) (AL c (c.iM me (i+1))))->∃H',Jg cl (I me) (.ref H.next 0 0) (.ref (H.next+2) 0 0) (I c.lines) (I i) Hj=some (.ref (H.next+2) 0 0,H')/\Made Hb H' (upd nil0 (H.next+2) (AL c (c.iM me c.lines.toNat))):=by
    intro Hj Mj;obtain⟨H',a1,a2⟩:=ih (i+1) (by omega) Hj Mj;refine⟨H',?_,a2⟩;simp -implicitDefEqProofs only [xq_,Jg,aZ,h6,h7,a1]
   rw [Xy];by_cases hm:c.ig i=me
   ·obtain⟨r,f1,f2,f3,f4⟩:=M.good.map (q:=H.next+2) upd_same (i:=8) rfl;obtain⟨H',g1,g2,g3,g4⟩:=(f4 (by rw [M.base];simp only [Hb,bNew,nNew];omega)).1 i (.agg (Row.av ⟨0,-1,c.first i⟩));simp only [Row.av] at g1;have e3:=abj Hi.guard c h i (by omega) h1;have Mj:Made Hb H' (upd nil0 (H.next+2) (AL c (c.iM me (i+1)))):=by
     refine(M.step g2 g3).as ?_;rw [mG,abk];simp only [Cfg.iM,hm,if_true]
    obtain⟨H2,t1,t2⟩:=tail H' Mj;refine⟨H2,?_,t2⟩;simp -implicitDefEqProofs only [Int.reduceNeg,Nat.reduceAdd,setAt,xq_,hq_,h1,e1,e2,hm,f1,e3,ahR,gV,dM,acC,g1,t1]
   ·have hm':¬(c.ig i=me):=hm;obtain⟨H2,t1,t2⟩:=tail Hi (M.as (by simp only [Cfg.iM,hm,if_false]));refine⟨H2,?_,t2⟩;simp -implicitDefEqProofs only [Int.reduceNeg,xq_,h1,e1,e2,hm,t1]
 obtain⟨H',a1,a2⟩:=key c.lines.toNat 0 (by omega) H0 M0;refine⟨H',H.next+2,aN rfl rfl (aoD _ _ _ _ (r:=(_,H')) ?_),a2.vW⟩;have l1:c.av[1]?=some (I c.lines):=rfl;have e:∀r,bd 205 [(0,.agg c.av),(1,.mp r)]=some (.agg (c.av++[.mp r])):=λr=> by
  simp -implicitDefEqProofs only [xq_,ah2,gV,dM,acN,Cfg.av,dF];rfl
 have e2:∀r,(c.av++[AV.mp r]).all AV.aH=true:=λr=> by rw [zbb,dH];rfl
 simp -implicitDefEqProofs only [Nat.reduceLT,xq_,hq_,ajF,aB (dH c),e,aB (e2 _),l1];exact a1
theorem iY {b n:Nat}{H1:aj}{g g':Store}{q:Nat}{cs:List Cell}(G:Good b H1 g)(h:g q=some cs)(hn:H1.next=n):cup n g g' q=some cs:=by
 unfold cup;rw [if_pos (by have:=G.lt h;omega),h]
theorem jT {b n:Nat}{H1:aj}{g g':Store}{q:Nat}{cs:List Cell}(G:Good b H1 g')(h:g' q=some cs)(hn:n<=b):cup n g g' q=some cs:=by
 unfold cup;rw [if_neg (by have:=G.le h;omega),h]
theorem drawn {H H':aj}{x:Option (AV × aj)}{v:AV}{g:Store}(e:x=some (v,H'))(M:Made H.guard H' g):∃H2,unG H x=some (v,H2)/\Made H H2 g:=
 ⟨_,by rw [e];rfl,M.aa9⟩
theorem iK {H:aj}{r:Nat}{ty:TypeId}{c:Cfg}(h:H.get r=.blk 0 ty c.av):lda 8 (.ref r 0 0) H=some (.agg c.av,H):=(fQ (off:=0) (n:=8) h (zac 8)).trans rfl
theorem aG.Yv {P:Program}{t e:TypeId}(h:P.underlying t=some (.slice e)){H:aj}{x:AV}{m n:Nat}{cells:List AV}(hx:aG H x m n cells)(hn:n≠0):mZ P .eql t x (.s (.slice none 0 0))=some (B false):=by
 obtain⟨_,hx⟩:=hx;cases x with
 | sl r g o m n c ex=> exact uP h
 | vs n m l=> exact nJ h
 | s v=>
  cases v with
  | slice a b c=>
   cases a with
   | none=> exact absurd hx.2.2 hn
   | some a=> exact hx.elim
  | _=> exact hx.elim
 | _=> exact hx.elim
def AO(d t:Nat)(c:Cfg)(me:Int):List Cell:=[.av (.ref d 0 0),.av (.ref t 0 0)]++c.av.map .av++[.av (I me)]
def kW(g:Store)(q d t:Nat)(c:Cfg)(me:Int)(h:Home):Prop:=g q=some (AO d t c me)/\g d=some (AL c h.rows)/\g t=some (fZ h.turns)
theorem MP {xs:List AV}{cs:List Cell}(h:cs=xs.map .av):∀(i:Nat) (c:Cell) (x:AV),cs[i]?=some c->xs[i]?=some x->c=.av x∨(x=zN/\∃m,c=.seq m []):=by
 subst h;intro i c x hc hx;rw [zaB,hx] at hc;exact .inl (za3 hc).symm
theorem aga(H:aj)(hb:H.base<=H.next)(c:Cfg)(h:c.ok=true)(me:Int):∃H' q d t g',cl 61 [.agg c.av,I me] H=some (.ref q 0 0,H')/\Made H H' g'/\kW g' q d t c me (.new c me):=by
 let H1:=H.new (.blk 0 40 c.av);obtain⟨H2',d,e1,M1⟩:=Yu H1.guard (zac _) c h me;obtain⟨H2,e1,M1⟩:=drawn e1 M1;obtain⟨H3',t,e2,M2⟩:=abe H2.guard;obtain⟨H3,e2,M2⟩:=drawn e2 M2;let xs:List AV:=[.ref d 0 0,.ref t 0 0]++c.av++[I me]
 have hall:xs.all AV.aH=true:=by
  simp only [xs,zbb,dH];rfl
 have M3:Made H3 (H3.new (.blk 0 150 xs)) (upd nil0 H3.next (AO d t c me)):=jI hall (by simp [xs,AO]) (MP (by simp [xs,AO]));have g1:H1.get H.next=.blk 0 40 c.av:=aK rfl
 have l1:H.next < H1.next:=by simp only [H1,nNew];omega
 have b1:=iK g1;have g2:H2.get H.next=.blk 0 40 c.av:=by rw [M1.same _ l1,g1]
 have g3:H3.get H.next=.blk 0 40 c.av:=by rw [M2.same _ (zaw l1 M1.next),g2]
 have b3:=iK g3;refine⟨_,H3.next,d,t,_,aN rfl rfl (aoc _ _ _ _ (r:=(_,H3.new (.blk 0 150 xs))) ?_),((M1.trans M2).trans M3).vW,?_⟩
 ·have e:bd 150 [(0,.ref d 0 0),(1,.ref t 0 0),(2,.agg c.av),(3,I me)]=some (.agg xs):=by
   simp -implicitDefEqProofs only [xq_,ahY,gV,dM,acJ,Cfg.av,dF];rfl
  simp only [H1] at e1 b1;simp -implicitDefEqProofs only [Nat.reduceLT,xq_,hq_,ajm,aB (dH c),b1,e1,e2,b3,e,aB hall]
 ·refine⟨jT M3.good upd_same (zac _),iY (M1.good.merge M2) (iY M1.good upd_same rfl) rfl,iY (M1.good.merge M2) (jT M2.good upd_same (zac _)) rfl⟩
theorem agb(H:aj)(l:List Opn)(hl:l.length < 1000000000){x:AV}(hx:aG H x 3 l.length (l.flatMap Opn.av))(h0:l=[]->x=zN):∃H' q,cl 60 [x] H=some (.ref q 0 0,H')/\Made H H' (upd nil0 q (nX ⟨l,[],false⟩)):=by
 have e1:=abf H l hl hx h0 λhn=> hx.Yv Tryz.underlying98 λe=> hn (zan e);have hc:(vsl 3 Opn.av l).cells=[vsl 3 Opn.av l]:=DI;refine⟨_,H.next,aN rfl rfl (aoa _ _ _ (r:=(_,H.new (.blk 0 126 [vsl 3 Opn.av l,zN,zB]))) ?_),jI ?_ rfl λi c x hc hx=> ?_⟩
 ·simp -implicitDefEqProofs only [Nat.reduceLT,Nat.reduceAdd,setAt,xq_,hq_,ajl,e1,ahW,gV,dM,acH,aB]
 ·simp -implicitDefEqProofs only [hq_]
 ·match i with
  | 0=> left;cases hc;cases hx;rfl
  | 1=> right;cases hc;cases hx;exact⟨rfl,1,rfl⟩
  | 2=> left;cases hc;cases hx;rfl
  | i+3=> cases hc
theorem Made.add {H H1 H2:aj}{g:Store}{q:Nat}{cs:List Cell}(M:Made H H1 g)(M':Made H1 H2 (upd nil0 q cs)):Made H H2 (upd g q cs):=
 (M.trans M').as ((M.good.alK (M'.lt upd_same).1).symm)
def Jw(a:Nat->Nat)(c:Cfg)(me:Int)(d:bF)(num:Int):List AV:=[.ref (a 1) 0 0,.ref (a 2) 0 0]++c.av++[I me,.ref (a 3) 0 0]++d.av++[I num]
def uw(a:Nat->Nat)(c:Cfg)(me:Int)(d:bF)(num:Int):List Cell:=(Jw a c me d num).map .av
def qA(g:Store)(a:Nat->Nat)(c:Cfg)(me:Int)(n:Node):Prop:=
 g (a 0)=some (uw a c me n.deal n.num)/\g (a 1)=some (bC n.cache)/\g (a 2)=some (nX n.proc)/\kW g (a 3) (a 4) (a 5) c me n.home
theorem MQ {a:Nat->Nat}{c:Cfg}{me:Int}{d:bF}{num:Int}:(Jw a c me d num).all AV.aH=true:=by
 simp only [Jw,zbb,dH,aP];rfl
def six(x0 x1 x2 x3 x4 x5:Nat):Nat->Nat
 | 0=> x0
 | 1=> x1
 | 2=> x2
 | 3=> x3
 | 4=> x4
 | _=> x5
theorem agc(H:aj)(c:Cfg)(h:c.ok=true)(me:Int)(l:List Opn)(hl:l.length < 1000000000){x:AV}(hx:aG H x 3 l.length (l.flatMap Opn.av))(h0:l=[]->x=zN):
  ∃H' a g',cl 33 [.agg c.av,I me,x] H=some (.ref (a 0) 0 0,H')/\Made H H' g'/\qA g' a c me (.new c me l):=by
 have Bd:=qx h;let H1:=H.new (.blk 0 40 c.av);obtain⟨H2',q1,e1,M1⟩:=abb H1.guard c.sets c.ways Bd.sets.1 Bd.ways.1;obtain⟨H2,e1,M1⟩:=drawn e1 M1;have hx2:aG H2 x 3 l.length (l.flatMap Opn.av):=(hx.new (.blk 0 40 c.av)).gK M1.next λr _ hr=> M1.same r hr
 obtain⟨H3',q2,e2,M2⟩:=agb H2.guard l hl hx2.guard h0;obtain⟨H3,e2,M2⟩:=drawn e2 M2;obtain⟨H4',q3,q4,q5,g4,e3,M3,I3⟩:=aga H3.guard (zac _) c h me;obtain⟨H4,e3,M3⟩:=drawn e3 M3;let a:=six H4.next q1 q2 q3 q4 q5
 let xs:=Jw a c me .zero 0;have M4:Made H4 (H4.new (.blk 0 66 xs)) (upd nil0 H4.next (uw a c me .zero 0)):=jI MQ (by simp [xs,uw]) (MP rfl);have g1:H1.get H.next=.blk 0 40 c.av:=aK rfl
 have l1:H.next < H1.next:=by simp only [H1,nNew];omega
 have l3:H.next < H3.next:=zaw l1 (zaz M1.next M2.next)
 have b1:=iK g1;have g2:H2.get H.next=.blk 0 40 c.av:=by rw [M1.same _ l1,g1]
 have g3:H3.get H.next=.blk 0 40 c.av:=by rw [M2.same _ (zaw l1 M1.next),g2]
 have b3:=iK g3;have G12:=M1.good.merge M2;have alL:=G12.merge M3;refine⟨_,a,_,aN rfl rfl (anP _ _ _ _ _ (r:=(_,H4.new (.blk 0 66 xs))) ?_),(((M1.trans M2).trans M3).trans M4).vW,?_⟩
 ·have e:bd 66 [(0,.ref q1 0 0),(1,.ref q2 0 0),(2,.agg c.av),(3,I me),(4,.agg [.ref q3 0 0])]=some (.agg xs):=by
   simp -implicitDefEqProofs only [xq_,ana,gV,dM,ahN,Cfg.av,dF];rfl
  have l3:c.av[3]?=some (I c.sets):=rfl;have l4:c.av[4]?=some (I c.ways):=rfl;have bx:∀r,(AV.ref r 0 0).cells=[.ref r 0 0]:=λ_=> rfl;have eb:∀r,bd 64 [(0,.ref r 0 0)]=some (.agg [.ref r 0 0]):=λr=> by
   simp -implicitDefEqProofs only [xq_,am9,gV,dM,ahM];rfl
  simp only [H1] at e1 b1;simp -implicitDefEqProofs only [Nat.reduceLT,xq_,hq_,ai5,aB (dH c),l3,l4,e1,e2,e3,b3,eb,e,aB MQ,xs];rfl
 ·refine⟨jT M4.good upd_same (zac _),iY alL (iY G12 (iY M1.good upd_same rfl) rfl) rfl,iY alL (iY G12 (jT M2.good upd_same (zac _)) rfl) rfl,?_⟩;obtain⟨i1,i2,i3⟩:=I3;exact⟨iY alL (jT M3.good i1 (zac _)) rfl,iY alL (jT M3.good i2 (zac _)) rfl,iY alL (jT M3.good i3 (zac _)) rfl⟩
def lH(a:Nat->Nat):List AV:=[.ref (a 0) 0 0,.ref (a 1) 0 0,.ref (a 2) 0 0,.ref (a 3) 0 0]
def abl(P:Nat->Nat->Nat)(n:Nat):List Cell:=[.seq 4 ((List.range n).flatMap λi=> lH (P i))]
def sO(g:Store)(a:Nat->Nat)(c:Cfg)(p:Port):Prop:=
 g (a 0)=some (kU p.rq c.out)/\g (a 1)=some (kU p.rin c.inn)/\g (a 2)=some (kU p.an c.out)/\g (a 3)=some (kU p.ain 1)
def PW(P:Nat->Nat->Nat)(n:Nat):Prop:=∀i j s t,i < n->j < n->s < 4->t < 4->P i s=P j t->i=j/\s=t
def fH(g:Store)(f:Nat)(P:Nat->Nat->Nat)(c:Cfg)(fab:Fab):Prop:=
 g f=some (abl P fab.l.length)/\(∀i p,fab.l[i]?=some p->sO g (P i) c p)/\fab.out=c.out/\fab.inn=c.inn
def four(x0 x1 x2 x3:Nat):Nat->Nat
 | 0=> x0
 | 1=> x1
 | 2=> x2
 | _=> x3
theorem Gw {P P':Nat->Nat->Nat}:∀n,(∀i,i < n->P' i=P i)->(List.range n).flatMap (λi=> lH (P' i))=(List.range n).flatMap λi=> lH (P i)
 | 0,_=> rfl
 | n+1,h=> by
  rw [zcj,zbB,zbB,Gw n λi hi=> h i (by omega)];simp only [zaH,List.flatMap_nil,h n (by omega)]
theorem lT(P:Nat->Nat->Nat)(n:Nat):((List.range n).flatMap λi=> lH (P i)).length=n*4:=by
 rw [bf (m:=4) (λ_=> rfl),List.length_range]
theorem sO.ext {g g':Store}{a:Nat->Nat}{c:Cfg}{p:Port}(h:sO g a c p)(hg:∀s,s < 4->g' (a s)=g (a s)):sO g' a c p:=by
 obtain⟨h0,h1,h2,h3⟩:=h;exact⟨by rw [hg 0 (by omega),h0],by rw [hg 1 (by omega),h1],by rw [hg 2 (by omega),h2],by rw [hg 3 (by omega),h3]⟩
theorem sO.some {g:Store}{a:Nat->Nat}{c:Cfg}{p:Port}(h:sO g a c p){s:Nat}(hs:s < 4):∃l r,g (a s)=some (kU l r):=by
 obtain⟨h0,h1,h2,h3⟩:=h
 match s,hs with
 | 0,_=> exact⟨_,_,h0⟩
 | 1,_=> exact⟨_,_,h1⟩
 | 2,_=> exact⟨_,_,h2⟩
 | 3,_=> exact⟨_,_,h3⟩
theorem Yw(H:aj)(hb:H.base<=H.next)(c:Cfg)(h:c.ok=true):∃H' f P g',cl 30 [.agg c.av] H=some (.ref f 0 0,H')/\Made H H' g'/\fH g' f P c (.new c)/\PW P c.nodes.toNat:=by
 have Bd:=qx h;let H1:=H.new (.blk 0 40 c.av);let H2:=H1.new (.blk 0 124 [zN]);let f:=H.next+1
 have M0:Made H1 H2 (upd nil0 f (abl (λ_ _=> 0) 0)):=jI rfl rfl λi c x hc hx=> by
  match i with
  | 0=> right;cases hc;cases hx;exact⟨rfl,4,rfl⟩
  | i+1=> cases hc
 have l0:c.av[0]?=some (I c.nodes):=rfl;have l5:c.av[5]?=some (I c.out):=rfl;have l6:c.av[6]?=some (I c.inn):=rfl;have key:∀k i,i+k=c.nodes.toNat->∀Hi gi P,Made H1 Hi gi->gi f=some (abl P i)->(∀j,j < i->sO gi (P j) c .zero)->PW P i->
   ∃H' g' P',I4 cl [.ref H.next 0 0,.ref f 0 0,I c.nodes,I i] Hi=some (.ref f 0 0,H')/\Made H1 H' g'/\g' f=some (abl P' c.nodes.toNat)/\(∀j,j < c.nodes.toNat->sO g' (P' j) c .zero)/\PW P' c.nodes.toNat:=by
  intro k
  induction k with
  | zero=>
   intro i hi Hi gi P M hf hp hj;have h1:¬(i:Int) < c.nodes:=by omega
   have hi':c.nodes.toNat=i:=by omega
   rw [Xl];refine⟨Hi,gi,P,?_,M,by rw [hi'];exact hf,by rw [hi'];exact hp,by rw [hi'];exact hj⟩;simp -implicitDefEqProofs only [xq_,h1]
  | succ k ih=>
   intro i hi Hi gi P M hf hp hj;have h1:(i:Int) < c.nodes:=by omega
   have h6:(i:Int)+1=((i+1:Nat):Int):=by omega
   have h7:=wrap_i64 (a:=((i+1:Nat):Int)) (by have:=Bd.nodes;omega) (by have:=Bd.nodes;omega);have lt1:H.next < H1.next:=by simp only [H1,nNew];omega
   have bx:∀H':aj,(∀r,r < H1.next->H'.get r=H1.get r)->H'.get H.next=.blk 0 40 c.av:=λH' hs=> by rw [hs _ lt1];exact aK rfl
   have ld5:∀H':aj,(∀r,r < H1.next->H'.get r=H1.get r)->ld (.ref H.next 0 5) H'=some (I c.out,H'):=λH' hs=> by rw [dK (bx H' hs),l5];rfl
   have ld6:∀H':aj,(∀r,r < H1.next->H'.get r=H1.get r)->ld (.ref H.next 0 6) H'=some (I c.inn,H'):=λH' hs=> by rw [dK (bx H' hs),l6];rfl
   obtain⟨x,hx,cx⟩:=M.good.seq hf (i:=0) rfl;obtain⟨Ha',q1,a1,Ma⟩:=Yq Hi.guard c.out (by have:=Bd.out;omega);obtain⟨Ha,a1,Ma⟩:=drawn a1 Ma;have Na:=M.add Ma;obtain⟨Hb',q2,a2,Mb⟩:=SB Ha.guard c.inn (by have:=Bd.inn;omega);obtain⟨Hb,a2,Mb⟩:=drawn a2 Mb;have Nb:=Na.add Mb;obtain⟨Hc',q3,a3,Mc⟩:=Yq Hb.guard c.out (by have:=Bd.out;omega);obtain⟨Hc,a3,Mc⟩:=drawn a3 Mc;have Nc:=Nb.add Mc;obtain⟨Hd',q4,a4,Md⟩:=SB Hc.guard 1 (by omega);obtain⟨Hd,a4,Md⟩:=drawn a4 Md;have Nd:=Nc.add Md;have o1:=Ma.lt upd_same;have o2:=Mb.lt upd_same;have o3:=Mc.lt upd_same;have o4:=Md.lt upd_same;have hfl:=M.good.lt hf;have cd:Cur H1.next Hd f 0 x 4 _:=(((cx.ext Ma.next Ma.same).ext Mb.next Mb.same).ext Mc.next Mc.same).ext Md.next Md.same
   let a:=four q1 q2 q3 q4;let o:dR:=.blk 0 121 (lH a);let g4:=upd (upd (upd (upd gi q1 (kU [] c.out)) q2 (kU [] c.inn)) q3 (kU [] c.out)) q4 (kU [] 1);have low:∀q,q < Hi.next->g4 q=gi q:=λq hq=> by
    simp only [g4];rw [upd_ne (by omega),upd_ne (by omega),upd_ne (by omega),upd_ne (by omega)]
   have hf4:g4 f=some (abl P i):=by rw [low f hfl,hf]
   obtain⟨x',He,Hf,t1,t2,t3,t4⟩:=(Nd.good.new o).append (e:=121) (by_:=32) (by rw [bNew,Nd.base];simp only [H1,bNew,nNew];omega) hf4 (i:=0) rfl (by decide) (lT P i) (cd.new o) (jv (ex:=true) (n:=1) (m:=4) (l:=lH a) rfl) rfl (by have:=Bd.nodes;unfold most;omega) (by have:=Bd.nodes;unfold most;omega);let P':Nat->Nat->Nat:=λj=> if j=i then a else P j
   have hP:∀j,j < i->P' j=P j:=λj hj=> by simp only [P'];rw [if_neg (by omega)]
   have hPi:P' i=a:=by simp only [P',if_true]
   have Mf:Made H1 Hf (upd g4 f (abl P' (i+1))):=by
    refine((Nd.new o).step t3 t4).as ?_
    congr 1
    simp only [abl,List.set_cons_zero];rw [zcj,zbB,Gw i hP,zaH,List.flatMap_nil,zbh,hPi]
   have hq:∀s,s < 4->Hi.next<=a s:=λs hs=> by
    match s,hs with
    | 0,_=> exact o1.1
    | 1,_=> exact zaz Ma.next o2.1
    | 2,_=> exact zaz Ma.next (zaz Mb.next o3.1)
    | 3,_=> exact zaz Ma.next (zaz Mb.next (zaz Mc.next o4.1))
   have hpl:∀j,j < i->∀s,s < 4->P j s < Hi.next:=λj hji s hs=> by
    obtain⟨l,r,hg⟩:=(hp j hji).some hs;exact M.good.lt hg
   obtain⟨H',g',P'',r1,r2⟩:=ih (i+1) (by omega) Hf _ P' Mf upd_same (λj hj1=> by
    by_cases hji:j=i
    ·subst hji;rw [hPi];have h4:∀s,s < 4->a s≠f:=λs hs=> by have:=hq s hs;omega
     refine sO.ext (g:=g4) ⟨?_,?_,?_,?_⟩ λs hs=> upd_ne (h4 s hs)
     ·show g4 q1=_;simp only [g4];rw [upd_ne (by omega),upd_ne (by omega),upd_ne (by omega),upd_same];rfl
     ·show g4 q2=_;simp only [g4];rw [upd_ne (by omega),upd_ne (by omega),upd_same];rfl
     ·show g4 q3=_;simp only [g4];rw [upd_ne (by omega),upd_same];rfl
     ·show g4 q4=_;simp only [g4];rw [upd_same];rfl
    ·rw [hP j (by omega)];refine(hp j (by omega)).ext λs hs=> ?_;have hlt:=hpl j (by omega) s hs;obtain⟨l,r,hg⟩:=(hp j (by omega)).some hs;have:P j s≠f:=λe=> by rw [e,hf] at hg;cases hg
     rw [upd_ne this,low _ hlt]) (λj k s t hj1 hk1 hs ht e=> by
    by_cases hji:j=i
    ·by_cases hki:k=i
     ·subst hji;subst hki;refine⟨rfl,?_⟩;rw [hPi] at e
      match s,hs,t,ht with
      | 0,_,0,_ | 1,_,1,_ | 2,_,2,_ | 3,_,3,_=> rfl
      | 0,_,1,_ | 0,_,2,_ | 0,_,3,_ | 1,_,0,_ | 1,_,2,_ | 1,_,3,_ | 2,_,0,_ | 2,_,1,_ | 2,_,3,_ | 3,_,0,_ | 3,_,1,_ | 3,_,2,_=> simp only [a,four] at e;omega
     ·subst hji;rw [hPi,hP k (by omega)] at e;have:=hq s hs;have:=hpl k (by omega) t ht;omega
    ·by_cases hki:k=i
     ·subst hki;rw [hPi,hP j (by omega)] at e;have:=hq t ht;have:=hpl j (by omega) s hs;omega
     ·rw [hP j (by omega),hP k (by omega)] at e;exact hj j k s t (by omega) (by omega) hs ht e)
   refine⟨H',g',P'',?_,r2⟩;rw [Xl];have s1:=ld5 Hi M.same;have s2:=ld6 Ha Na.same;have s3:=ld5 Hb Nb.same;have ep:∀r r',bd 115 [(0,.ref r 0 0),(1,.ref r' 0 0)]=some (.agg [.ref r 0 0,.ref r' 0 0]):=λr r'=> by
    simp -implicitDefEqProofs only [xq_,acE,gV,dM,acD];rfl
   have eq:∀r r' r2 r3,bd 121 [(0,.agg [.ref r 0 0,.ref r' 0 0]),(1,.agg [.ref r2 0 0,.ref r3 0 0])]=some (.agg [.ref r 0 0,.ref r' 0 0,.ref r2 0 0,.ref r3 0 0]):=λr r' r2 r3=> by
    simp -implicitDefEqProofs only [xq_,ahT,gV,dM,acG];rfl
   have eb:=jm (e:=121) (m:=4) (z:=[zP,zP,zP,zP]) (v:=.agg [.ref q1 0 0,.ref q2 0 0,.ref q3 0 0,.ref q4 0 0]) (H:=Hd) rfl rfl rfl;simp only [dF] at eb;simp only [o,a,lH,four,f] at t1 t2 r1 hx;simp -implicitDefEqProofs only [Nat.reduceLeDiff,xq_,hq_,h1,f,hx,s1,s2,s3,a1,a2,a3,a4,ep,eq,ahF,zbd,eb,t1,t2,aZ,h6,h7,r1]
 obtain⟨H',g',P,r1,r2,r3,r4,r5⟩:=key c.nodes.toNat 0 (by omega) H2 _ _ M0 upd_same (λj hj=> by omega) (λi j s t hi=> by omega);refine⟨H',f,P,g',aN rfl rfl (anM _ _ _ (r:=(_,H')) ?_),r2.vW,⟨?_,?_,rfl,rfl⟩,r5⟩
 ·have e0:bd 124 []=some (.agg [zN]):=by
   simp -implicitDefEqProofs only [xq_,ahV,gV,dM]
  have a0:([zN]:List AV).all AV.aH=true:=rfl;simp -implicitDefEqProofs only [Nat.reduceLT,xq_,hq_,ai3,aB (dH c),e0,aB a0,l0];exact r1
 ·rw [r3];simp only [Fab.new,zb1]
 ·intro i p hp;simp only [Fab.new] at hp;rw [zbv] at hp;split at hp
  ·cases hp;exact r4 i (by omega)
  ·cases hp
structure Adr where
 jO:Nat
 fab:Nat
 trace:Nat
 N:Nat->Nat->Nat
 P:Nat->Nat->Nat
def EU(A:Adr)(c:Cfg):List AV:=[.ref A.fab 0 0,.ref A.trace 0 0]++c.av
def lZ(N:Nat->Nat->Nat)(n:Nat):List AV:=(List.range n).map λi=> .ref (N i 0) 0 0
def uy(A:Adr)(c:Cfg)(n:Nat):List Cell:=(EU A c).map .av++[.seq 1 (lZ A.N n)]
def amM(N:Nat->Nat->Nat)(n:Nat):Prop:=∀i j s t,i < n->j < n->s < 6->t < 6->N i s=N j t->i=j/\s=t
structure fC(g:Store)(A:Adr)(m:fK):Prop where
 jO:g A.jO=some (uy A m.c m.nodes.length)
 trace:g A.trace=some (kJ m.trace)
 fab:fH g A.fab A.P m.c m.fab
 node:∀(i:Nat) n,m.nodes[i]?=some n->qA g (A.N i) m.c i n
 PX:PW A.P m.fab.l.length
 alM:amM A.N m.nodes.length
 tf:A.trace≠A.fab
theorem qA.some {g:Store}{a:Nat->Nat}{c:Cfg}{me:Int}{n:Node}(h:qA g a c me n){s:Nat}(hs:s < 6):∃l,g (a s)=some l:=by
 obtain⟨h0,h1,h2,h3,h4,h5⟩:=h
 match s,hs with
 | 0,_=> exact⟨_,h0⟩
 | 1,_=> exact⟨_,h1⟩
 | 2,_=> exact⟨_,h2⟩
 | 3,_=> exact⟨_,h3⟩
 | 4,_=> exact⟨_,h4⟩
 | 5,_=> exact⟨_,h5⟩
theorem qA.ext {g g':Store}{a:Nat->Nat}{c:Cfg}{me:Int}{n:Node}(h:qA g a c me n)(hg:∀s,s < 6->g' (a s)=g (a s)):qA g' a c me n:=by
 obtain⟨h0,h1,h2,h3,h4,h5⟩:=h;exact⟨by rw [hg 0 (by omega),h0],by rw [hg 1 (by omega),h1],by rw [hg 2 (by omega),h2],by rw [hg 3 (by omega),h3],by rw [hg 4 (by omega),h4],by rw [hg 5 (by omega),h5]⟩
theorem qA.inj {g:Store}{a:Nat->Nat}{c:Cfg}{me:Int}{n:Node}(h:qA g a c me n){s t:Nat}(hs:s < 6)(ht:t < 6)(e:a s=a t):s=t:=by
 obtain⟨h0,h1,h2,h3,h4,h5⟩:=h;have hh:(g (a s)).map List.length=(g (a t)).map List.length:=by rw [e]
 match s,hs,t,ht with
 | 0,_,0,_ | 1,_,1,_ | 2,_,2,_ | 3,_,3,_ | 4,_,4,_ | 5,_,5,_=> rfl
 | 0,_,1,_ | 0,_,2,_ | 0,_,3,_ | 0,_,4,_ | 0,_,5,_ | 1,_,0,_ | 1,_,2,_ | 1,_,3,_ | 1,_,4,_ | 1,_,5,_ | 2,_,0,_ | 2,_,1,_ | 2,_,3,_ | 2,_,4,_ | 2,_,5,_ | 3,_,0,_ | 3,_,1,_ | 3,_,2,_ | 3,_,4,_ | 3,_,5,_ | 4,_,0,_ | 4,_,1,_ | 4,_,2,_ | 4,_,3,_ | 4,_,5,_ | 5,_,0,_ | 5,_,1,_ | 5,_,2,_ | 5,_,3,_ | 5,_,4,_=>
  simp [h0,h1,h2,h3,h4,h5,uw,Jw,Cfg.av,bF.av,bC,nX,AO,AL,fZ] at hh
theorem Ep {N N':Nat->Nat->Nat}{n:Nat}(h:∀i,i < n->N' i=N i):lZ N' (n+1)=lZ N n++[.ref (N' n 0) 0 0]:=by
 unfold lZ;rw [zcj,zbk]
 congr 1
 refine zbA λi hi=> ?_;rw [h i (zaW.1 hi)]
theorem Ce {c:Cfg}{ps:List (List Opn)}(h:c.pR ps=true):(ps.length:Int)=c.nodes/\∀l∈ps,l.length<=24:=by
 simp only [Cfg.pR,zaj,decide_eq_true_eq,zaZ] at h;exact⟨h.2,λl hl=> (h.1 l hl).1⟩
theorem zD(H:aj)(hb:H.base<=H.next)(c:Cfg)(h:c.ok=true){x:AV}{ps:List (List Opn)}(hx:SE H x ps)(hp:c.pR ps=true):∃H' A g',cl 25 [.agg c.av,x] H=some (.tup [.ref A.jO 0 0,I 0],H')/\Made H H' g'/\fC g' A (.new c ps):=by
 have Bd:=qx h;obtain⟨hp1,hp2⟩:=Ce hp;have hn:=Bd.nodes;let H1:=H.new (.blk 0 40 c.av);have lt1:H.next < H1.next:=by simp only [H1,nNew];omega
 have g1:H1.get H.next=.blk 0 40 c.av:=aK rfl
 have b1:=iK g1;have e1:=SC H1 c h;have e2:=aeB H1 c h (hx.gK (H':=H1) (by omega) λr hr=> aQ hr) (by omega) λl hl=> by have:=hp2 l hl;omega
 rw [hp] at e2;have e3:=jf H1 c.init (by have:=Bd.init;have:=Bd.jA;omega);obtain⟨H2',f,P,gf,e4,M1,F1,J1⟩:=Yw H1.guard (zac _) c h;obtain⟨H2,e4,M1⟩:=drawn e4 M1;obtain⟨H3',t,e5,M2⟩:=abd H2.guard;obtain⟨H3,e5,M2⟩:=drawn e5 M2;let A0:Adr:=⟨H3.next,f,t,λ_ _=> 0,P⟩
 have bx:∀H':aj,(∀r,r < H1.next->H'.get r=H1.get r)->H'.get H.next=.blk 0 40 c.av:=λH' hs=> by rw [hs _ lt1,g1]
 have M12:=M1.add M2;have b3:=iK (bx H3 M12.same);have b2:=iK (bx H2 M1.same);let xs:=EU A0 c++[zN]
 have hall:xs.all AV.aH=true:=by simp only [xs,EU,zbb,dH];rfl
 have M3:Made H3 (H3.new (.blk 0 47 xs)) (upd nil0 H3.next (uy A0 c 0)):=by
  refine jI hall (by simp [xs,uy]) λi cc y hc hy=> ?_;simp only [uy] at hc;by_cases hi:i < (EU A0 c).length
  ·left;rw [zaJ (by rw [zaE];exact hi),zaB] at hc;rw [zaJ hi] at hy;rw [hy] at hc;exact(za3 hc).symm
  ·right;have hlen:(EU A0 c).length=10:=rfl;have:i=10:=by
    have:=(zaf.1 hy).1;simp only [xs,zaq,zak,zat] at this;omega
   subst this;cases hc;cases hy;exact⟨rfl,1,rfl⟩
 have M0:=M12.add M3;let g0:=upd (upd gf t (kJ [])) H3.next (uy A0 c 0)
 let K:=H3.next
 have key:∀k i,i+k=ps.length->∀Hi gi N,Made H1 Hi gi->gi K=some (uy { A0 with N:=N } c i)->(∀q,q < K->gi q=g0 q)->(∀(j:Nat) l,j < i->ps[j]?=some l->qA gi (N j) c j (.new c j l))->amM N i->
   ∃H' g' N',IY cl [.ref H.next 0 0,.ref K 0 0,x,I ps.length,I i] Hi=some (.tup [.ref K 0 0,I 0],H')/\Made H1 H' g'/\g' K=some (uy { A0 with N:=N' } c ps.length)/\(∀q,q < K->g' q=g0 q)/\(∀(j:Nat) l,j < ps.length->ps[j]?=some l->qA g' (N' j) c j (.new c j l))/\amM N' ps.length:=by
  intro k
  induction k with
  | zero=>
   intro i hi Hi gi N M hm hl hnd hj;have h1:¬(i:Int) < ps.length:=by omega
   have hi':ps.length=i:=by omega
   rw [Xh];refine⟨Hi,gi,N,?_,M,by rw [hi'];exact hm,hl,by rw [hi'];exact hnd,by rw [hi'];exact hj⟩;simp -implicitDefEqProofs only [xq_,h1]
  | succ k ih=>
   intro i hi Hi gi N M hm hlow hnd hj;have h1:(i:Int) < ps.length:=by omega
   have h6:(i:Int)+1=((i+1:Nat):Int):=by omega
   have h7:=wrap_i64 (a:=((i+1:Nat):Int)) (by omega) (by omega);have hxi:=hx.gK (H':=Hi) (zaz (Nat.le_of_lt lt1) M.next) λr hr=> by rw [M.same r (by omega)];exact aQ hr
   obtain⟨cells,x1,x2⟩:=hxi;have hcl:cells.length=ps.length:=by have:=x1.1;omega
   have s1:=x1.ix (k:=.i64) (i:=(i:Int)) (by omega) h1;rw [zar] at s1;have s2:=x1.ld (i:=i) (by omega);obtain⟨v,hv⟩:∃v,cells[i]?=some v:=⟨_,zab (by omega)⟩
   obtain⟨l,hl⟩:∃l,ps[i]?=some l:=⟨_,zab (by omega)⟩
   rw [hv] at s2;obtain⟨v1,v2⟩:=x2 i v l hv hl;have s4:=iK (bx Hi M.same);obtain⟨y,hy,cy⟩:=M.good.seq hm (i:=10) (m:=1) (l:=lZ N i) rfl;obtain⟨Ha',a,ga,a1,Ma,Ia⟩:=agc Hi.guard c h i l (by have:=hp2 l (zau hl);omega) v1.guard v2;obtain⟨Ha,a1,Ma⟩:=drawn a1 Ma;have Na:=M.trans Ma;let ga':=cup Hi.next gi ga
   have hK:=M.good.lt hm;have aeC:∀q,q < Hi.next->ga' q=gi q:=λq hq=> by simp only [ga',cup,hq,if_true]
   have hma:ga' K=some (uy { A0 with N:=N } c i):=by rw [aeC K hK,hm]
   let o:dR:=.blk 0 54 [.ref (a 0) 0 0];have hnl:(lZ N i).length=i*1:=by simp [lZ]
   obtain⟨y',He,Hf,t1,t2,t3,t4⟩:=(Na.good.new o).append (e:=54) (by_:=8) (by rw [bNew,Na.base];simp only [H1,bNew,nNew];omega) hma (i:=10) rfl (by decide) hnl ((cy.ext Ma.next Ma.same).new o) (jv (ex:=true) (n:=1) (m:=1) (l:=[.ref (a 0) 0 0]) rfl) rfl (by unfold most;omega) (by unfold most;omega);let N':Nat->Nat->Nat:=λj=> if j=i then a else N j
   have hN:∀j,j < i->N' j=N j:=λj hj=> by simp only [N'];rw [if_neg (by omega)]
   have hNi:N' i=a:=by simp only [N',if_true]
   have Mf:Made H1 Hf (upd ga' K (uy { A0 with N:=N' } c (i+1))):=by
    refine((Na.new o).step t3 t4).as ?_
    congr 1
    simp only [uy];rw [Ep hN,hNi];rfl
   have hal:∀s,s < 6->Hi.next<=a s/\ga' (a s)=ga (a s):=λs hs=> by
    obtain⟨l,hg⟩:=Ia.some hs;have:=(Ma.lt hg).1;exact⟨this,by simp only [ga',cup];rw [if_neg (by omega)]⟩
   have hNl:∀j,j < i->∀s,s < 6->N j s < Hi.next:=λj hji s hs=> by
    obtain⟨lj,hlj⟩:∃l,ps[j]?=some l:=⟨_,zab (by omega)⟩
    obtain⟨l,hg⟩:=(hnd j lj hji hlj).some hs;exact M.good.lt hg
   obtain⟨H',g',N'',r1,r2⟩:=ih (i+1) (by omega) Hf _ N' Mf upd_same (λq hq=> by
    rw [upd_ne (by omega),aeC q (by omega),hlow q hq]) (λj lj hj1 hlj=> by
    by_cases hji:j=i
    ·subst hji;rw [hl] at hlj;cases hlj;rw [hNi];exact Ia.ext λs hs=> by
      obtain⟨h1,h2⟩:=hal s hs;rw [upd_ne (by omega),h2]
    ·rw [hN j (by omega)];refine(hnd j lj (by omega) hlj).ext λs hs=> ?_;have hlt:=hNl j (by omega) s hs;have hne:N j s≠K:=λe=> by
      have I:=hnd j lj (by omega) hlj;obtain⟨l',hg⟩:=I.some hs;obtain⟨h0,h1,h2,h3,h4,h5⟩:=I;have hh:(gi (N j s)).map (λl=> l[10]?)=some (some (.seq 1 (lZ N i))):=by rw [e,hm];rfl
      match s,hs with
      | 0,_=> rw [h0] at hh;simp [uw,Jw,Cfg.av,bF.av] at hh
      | 1,_=> rw [h1] at hh;simp [bC] at hh
      | 2,_=> rw [h2] at hh;simp [nX] at hh
      | 3,_=> rw [h3] at hh;simp [AO,Cfg.av] at hh
      | 4,_=> rw [h4] at hh;simp [AL,Cfg.av] at hh
      | 5,_=> rw [h5] at hh;simp [fZ] at hh
     rw [upd_ne hne,aeC _ hlt]) (λj k s t hj1 hk1 hs ht e=> by
    by_cases hji:j=i
    ·by_cases hki:k=i
     ·subst hji;subst hki;rw [hNi] at e;exact⟨rfl,Ia.inj hs ht e⟩
     ·subst hji;rw [hNi,hN k (by omega)] at e;have:=(hal s hs).1;have:=hNl k (by omega) t ht;omega
    ·by_cases hki:k=i
     ·subst hki;rw [hNi,hN j (by omega)] at e;have:=(hal t ht).1;have:=hNl j (by omega) s hs;omega
     ·rw [hN j (by omega),hN k (by omega)] at e;exact hj j k s t (by omega) (by omega) hs ht e)
   refine⟨H',g',N'',?_,r2⟩;rw [Xh];have eb:=jm (e:=54) (m:=1) (z:=[zP]) (v:=.ref (a 0) 0 0) (H:=Ha) rfl rfl rfl;have ec:(AV.ref (a 0) 0 0).cells=[.ref (a 0) 0 0]:=rfl;rw [ec] at eb;simp only [o] at t1 t2;simp -implicitDefEqProofs only [Nat.reduceLeDiff,xq_,hq_,h1,s1,s2,s4,hy,a1,am7,zbd,eb,t1,t2,aZ,h6,h7,r1]
 have hfl:f < H2.next:=M1.good.lt F1.1
 have ht:=M2.lt upd_same;obtain⟨H',g',N,r1,r2,r3,r4,r5,r6⟩:=key ps.length 0 (by omega) _ g0 (λ_ _=> 0) M0 upd_same (λq hq=> rfl) (λj l hj=> by omega) (λi j s t hi=> by omega);have hg0:∀q,q < H2.next->g0 q=gf q:=λq hq=> by simp only [g0];rw [upd_ne (by omega),upd_ne (by omega)]
 refine⟨H',{ A0 with N:=N },g',aN rfl rfl (aiU _ _ _ _ (r:=(_,H')) ?_),r2.vW,?_⟩
 ·have l7:c.av[7]?=some (dat c.init):=rfl;have b0:mZ Tryz.prog .neq 76 (I 0) (I 0)=some (B false):=by kernel_rfl
  have st7:st 1 (.ref H.next 0 7) (dat c.init) H1=some (aO,H1):=by
   simp only [H1];rw [Lp rfl];simp -implicitDefEqProofs only [Nat.reduceAdd,setAt,xq_,hq_,Cfg.av,hb]
  have em:bd 47 [(0,.ref f 0 0),(1,.ref t 0 0),(2,.agg c.av)]=some (.agg xs):=by
   simp -implicitDefEqProofs only [xq_,am8,gV,dM,ahJ,Cfg.av,dF];rfl
  have el:=(hx.gK (H':=H3.new (.blk 0 47 xs)) (by have:=M12.next;simp only [nNew];omega) λr hr=> by rw [M0.same r (by omega)];exact aQ hr)
  obtain⟨cells,x1,_⟩:=el;have el:=x1.lnS;simp only [H1] at b1 e1 e2 e3 e4 e5 st7;simp -implicitDefEqProofs only [Nat.reduceLT,xq_,hq_,aaV,aB (dH c),b1,e1,b0,e2,e3,l7,st7,e4,e5,b3,em,aB hall,el];exact r1
 ·refine⟨?_,?_,⟨?_,?_,rfl,rfl⟩,?_,?_,?_,?_⟩
  ·rw [r3];simp only [fK.new,zci]
  ·rw [r4 t ht.2];simp only [g0];rw [upd_ne (by omega),upd_same];rfl
  ·show g' f=_;rw [r4 f (by have:=M2.next;omega),hg0 f hfl,F1.1];rfl
  ·intro i p hp;have I:=F1.2.1 i p hp;exact I.ext λs hs=> by
    obtain⟨l,r,hg⟩:=I.some hs;have:=M1.good.lt hg;rw [r4 _ (by have:=M2.next;omega),hg0 _ this]
  ·intro i n hi;simp only [fK.new,zbc,zbo] at hi;obtain⟨l,hl,rfl⟩:=hi;exact r5 i l (zaf.1 hl).1 hl
  ·simp only [fK.new,Fab.new,zb1];exact J1
  ·simp only [fK.new,zci];exact r6
  ·show t≠f;omega
section
variable {b:Nat}{H:aj}{g:Store}{q:Nat}
theorem Jy(G:Good b H g){p:Proc}(h:g q=some (nX p))(h1:p.ops.length < 1000)(h2:p.values.length < 1000):cl 19 [.ref q 0 0] H=some (I p.left,H):=by
 refine aN rfl rfl (anD _ _ _ ?_);have e1:=G.load h (i:=0) rfl;have e2:=(Dz dw H p.ops).lnS;obtain⟨x,hx,c⟩:=G.seq h (i:=1) rfl;have e3:=(c.is (n:=p.values.length) (by decide) (by simp)).lnS;simp -implicitDefEqProofs only [xq_,aiP,e1,e2,hx,e3,iT,Proc.left];rw [wrap_i64 (by omega) (by omega)]
theorem MR(G:Good b H g){p:Proc}(h:g q=some (nX p)):cl 45 [.ref q 0 0] H=some (B p.begun,H):=by
 refine aN rfl rfl (anX _ _ _ ?_);have e1:=G.load h (i:=2) rfl;simp -implicitDefEqProofs only [xq_,aja,e1]
theorem Yx(G:Good b H g){l:List Pkt}{room:Int}(h:g q=some (kU l room)):cl 48 [.ref q 0 0] H=some (I l.length,H):=by
 refine aN rfl rfl (anZ _ _ _ ?_);obtain⟨x,hx,c⟩:=G.seq h (i:=0) rfl;have e2:=(c.is (by decide) (bf aY l)).lnS;simp -implicitDefEqProofs only [xq_,ajd,hx,e2]
theorem SG(G:Good b H g){l:List Pkt}{room:Int}(h:g q=some (kU l room)):cl 51 [.ref q 0 0] H=some (I l.length,H):=by
 refine aN rfl rfl (an2 _ _ _ ?_);obtain⟨x,hx,c⟩:=G.seq h (i:=0) rfl;have e2:=(c.is (by decide) (bf aY l)).lnS;simp -implicitDefEqProofs only [xq_,aje,hx,e2]
theorem Yy {H:aj}(l:List Int)(h:l.length < 1000000000):app 3 1 8 zN (dat l) H=some (if l=[] then(zN,H) else(.sl H.next 0 0 1 l.length l.length false,H.new (.blk 0 (3+eH) (l.map I)))):=by
 by_cases h0:l=[]
 ·subst h0;simp only [dat,dQ,if_true];rfl
 ·rw [if_neg h0];exact IC (jr _ l) (uY l) (λe=> h0 (zan e)) (by unfold most;omega) (by unfold most;omega)
theorem Gx {H:aj}{s d r:Nat}{l:List Int}(hl:l≠[])(hr:s<=r){ty:TypeId}(hg:H.get r=.blk 0 ty (l.map I)){ex:Bool}:aV H s (d+2) (.sl r 0 0 1 l.length l.length ex)=some (dat l):=by
 rw [uo hl];refine gZ hr (cells:=l.map I) ?_ (dZ _ λx hx=> oZ _ x hx _ _);simp only [aX,hg];rw [if_pos ⟨trivial,by simp⟩,zaP,zas (by simp)]
theorem abm(G:Good b H g){a:Nat->Nat}{c:Cfg}{me:Int}{d:bF}{num:Int}(h:g q=some (uw a c me d num))(hd:d.data.length < 1000000000):
  cl 18 [.ref q 0 0] H=some (.tup [.agg (if d.step=0 then bF.zero else d).av,B (!decide (d.step=0))],H):=by
 have zd:bF.zero.av=[zI,zI,zI,zI,zI,zI,zN,zI,zI]:=by simp [bF.zero,bF.av,dat,dQ]
 have G1:=G.guard.new (.blk 0 57 [zI,zI,zI,zI,zI,zI,zN,zI,zI]);have e1:=G1.load h (i:=15) (x:=I d.step) rfl;have ez:bd 57 []=some (.agg [zI,zI,zI,zI,zI,zI,zN,zI,zI]):=by simp -implicitDefEqProofs only [xq_,Ug,gV,dM]
 by_cases h0:d.step=0
 ·refine aW rfl rfl (afD _ _ _) ?_ ?_
  ·simp -implicitDefEqProofs only [Nat.reduceAdd,setAt,xq_,hq_,Xf,e1,h0,ez,zd,zae]
  ·rw [if_pos h0,zd];refine rD λx hx=> ?_;simp only [zam,zaI,or_false] at hx;rcases hx with rfl | rfl
   ·refine kD λx hx=> ?_;simp only [zam,zaI,or_false] at hx;rcases hx with rfl | rfl | rfl | rfl | rfl | rfl | rfl | rfl | rfl <;> exact dW
   ·exact dW
 ·have e2:=G1.loads h (i:=12) (n:=9) (xs:=d.av) rfl rfl (by decide);by_cases hl:d.data=[]
  ·refine aW rfl rfl (afD _ _ _) (v:=.tup [.agg d.av,B true]) ?_ ?_ |>.trans ?_
   ·have e3:=λH=> Yy (H:=H) d.data hd;have hz:dat ([]:List Int)=zN:=by simp [dat,dQ]
    simp only [hl,if_true,hz] at e3;have zc:zN.cells=[zN]:=rfl;simp -implicitDefEqProofs only [Nat.reduceAdd,setAt,xq_,hq_,Xf,e1,h0,e2,bF.av,hl,e3,hz,zc]
   ·refine rD λx hx=> ?_;simp only [zam,zaI,or_false] at hx;rcases hx with rfl | rfl
    ·refine kD λx hx=> ?_;simp only [bF.av,zam,zaI,or_false] at hx;rcases hx with rfl | rfl | rfl | rfl | rfl | rfl | rfl | rfl | rfl <;> first | exact dW | exact rE
    ·exact dW
   ·simp only [h0,if_false,decide_false,zal]
  ·let Hr:=H.next+2
   have e3:=λH=> Yy (H:=H) d.data hd;simp only [hl,if_false] at e3;have key:∃Hz,Xf cl (.ref q 0 0) H.guard=some (.tup [.agg [I d.kind,I d.line,I d.id,I d.step,I d.state,I d.head,.sl (H.next+2) 0 0 1 d.data.length d.data.length false,I d.next,I d.told],B true],Hz)/\Hz.get (H.next+2)=.blk 0 (3+eH) (d.data.map I):=by
    have cs:∀r n m,(AV.sl r 0 0 1 n m false).cells=[.sl r 0 0 1 n m false]:=λ_ _ _=> rfl;have ic:∀r n m,AV.aH (.sl r 0 0 1 n m false)=true:=λ_ _ _=> rfl;simp -implicitDefEqProofs only [Nat.reduceAdd,setAt,xq_,hq_,zaa,zad,exists_eq_left',Xf,e1,h0,e2,bF.av,e3,cs,ic];exact aK (by first | rfl | simp only [nNew,yU])
   obtain⟨Hz,k1,k2⟩:=key;refine eu rfl rfl (afD _ _ _ k1) ?_;have f:=Gx (s:=H.next) (d:=5) (ex:=false) hl (by omega) k2;have f':∀v,aV Hz H.next 7 (.s v)=some (.s v):=λv=> fJ
   have f'':∀v,aV Hz H.next 8 (.s v)=some (.s v):=λv=> fJ
   rw [aV,zbp,aV];simp only [zbp,List.mapM_nil,f,f',f'',h0,if_false,decide_false,zal,bF.av];rfl
end
section
variable {b:Nat}{H:aj}{g:Store}{q f:Nat}{P:Nat->Nat->Nat}{c:Cfg}{fab:Fab}
theorem Cur.elemAt {i m n:Nat}{x:AV}{l:List AV}(cu:Cur b H q i x m l)(hm:0 < m)(hl:l.length=n*m){j:Nat}(hj:j < n):
  ∃r gg o,(∀k:IntKind,ix m x (.s (.int k j)) H=some (.ref r gg o,H))/\(∀k,k < m->ld (.ref r gg (o+k)) H=(l[j*m+k]?).map λv=> (v,H))/\lda m (.ref r gg o) H=some (.agg ((l.drop (j*m)).take m),H):=by
 have hs:=cu.is hm hl;have hjm:(j+1)*m<=n*m:=zaD _ (by omega);rw [zbs,zbd] at hjm;rcases cu.length hm hl with⟨_,h0⟩ | ⟨r,gg,off,cap,ex,ty,all,rfl,k1,k2,k3,k4,k5,k6,k7,k8⟩
 ·omega
 have hcm:n*m<=cap*m:=zaD _ k4;refine⟨r,gg,off+j*m,λk=> ?_,λk hk=> ?_,?_⟩
 ·have:=hs.ix (k:=k) (i:=(j:Int)) (by omega) (by omega);rw [zar] at this;exact this
 ·rw [dK k5,k8,zaA,if_pos (by omega),zaF,zb7]
 ·rw [fQ k5 (by omega),k8]
  congr 3
  rw [zce,zbE,zbU,zbg (by omega)]
theorem Es {α:Type}{enc:α->List AV}{m:Nat}(he:∀a,(enc a).length=m)(l:List α)(i:Nat)(a:α)(hi:l[i]?=some a){k:Nat}(hk:k < m):(l.flatMap enc)[i*m+k]?=(enc a)[k]?:=by
 have:=flat_get he l i a hi;rw [<-this,zaA,if_pos hk,zaF]
theorem yu(G:Good b H g)(F:fH g f P c fab)(hn:fab.l.length < 1000)(i:Int):cl 50 [.ref f 0 0,I i] H=some (B (fab.is i),H):=by
 refine aN rfl rfl (an1 _ _ _ _ ?_);obtain⟨x,hx,cu⟩:=G.seq F.1 (i:=0) rfl;have e2:=(cu.is (by decide) (lT P _)).lnS;by_cases h0:0<=i
 ·simp -implicitDefEqProofs only [xq_,afJ,h0,hx,e2,Fab.is,zaO]
 ·simp -implicitDefEqProofs only [xq_,afJ,h0,Fab.is,zaQ]
theorem fH.port(F:fH g f P c fab){i:Nat}(hi:i < fab.l.length):sO g (P i) c (fab.port i):=by
 have:=F.2.1 i (fab.l[i]) (zab hi);unfold Fab.port;rw [zar,zax,zab hi];exact this
theorem Uy(G:Good b H g)(F:fH g f P c fab)(hn:fab.l.length < 1000)(i:Int):
  cl 16 [.ref f 0 0,I i] H=some (.tup [I (fab.waiting i true),I (fab.waiting i false)],H):=by
 refine aN rfl rfl (anA _ _ _ _ ?_);have e1:=yu G F hn i;cases hi:fab.is i with
 | false=>
  rw [hi] at e1;simp -implicitDefEqProofs only [xq_,afC,e1,zal,Fab.waiting,hi];rfl
 | true=>
  rw [hi] at e1;simp only [Fab.is,zaj,decide_eq_true_eq] at hi;obtain⟨n,rfl⟩:∃n:Nat,i=n:=⟨i.toNat,by omega⟩
  have hl:n < fab.l.length:=by omega
  obtain⟨x,hx,cu⟩:=G.seq F.1 (i:=0) rfl;obtain⟨r,gg,o,a1,a2,_⟩:=cu.elemAt (by decide) (lT P _) hl;have hr:(List.range fab.l.length)[n]?=some n:=zbm hl;have l1:=a2 1 (by decide);rw [Es (m:=4) (λ_=> rfl) _ n n hr (by decide)] at l1;have l3:=a2 3 (by decide);rw [Es (m:=4) (λ_=> rfl) _ n n hr (by decide)] at l3;have hp:=F.port hl;have q1:=SG G.guard hp.2.1;have q3:=SG G hp.2.2.2;have l1':ld (.ref r gg (o+1)) H=some (.ref (P n 1) 0 0,H):=l1;have l3':ld (.ref r gg (o+2+1)) H=some (.ref (P n 3) 0 0,H):=l3;have a1':=a1 .i64;have w:∀req,fab.waiting n req=((fab.port n).rH req).length:=λreq=> by
   unfold Fab.waiting;rw [if_pos (by simp only [Fab.is,zaj,decide_eq_true_eq];omega)]
  simp -implicitDefEqProofs only [xq_,afC,e1,zae,hx,a1',l1',l3',q1,q3,w,Port.rH]
end
section
variable {b:Nat}{H:aj}{g:Store}{q f:Nat}{P:Nat->Nat->Nat}{c:Cfg}{fab:Fab}
theorem agd {e:TypeId}{H:aj}{a b c d:Nat}:bsl e 2 [zP,zP] 2 [(0,.agg [.ref a 0 0,.ref b 0 0]),(1,.agg [.ref c 0 0,.ref d 0 0])] H=some (.sl H.next 0 0 2 2 2 true,H.new (.blk 0 e [.ref a 0 0,.ref b 0 0,.ref c 0 0,.ref d 0 0])):=rfl
def gu(P:Nat->Nat->Nat)(n:Nat):List AV:=(List.range n).flatMap λi=> lH (P i)
theorem fH.lt(G:Good b H g)(F:fH g f P c fab){i s:Nat}(hi:i < fab.l.length)(hs:s < 4):P i s < H.next:=by
 obtain⟨l,r,h⟩:=(F.port hi).some hs;exact G.lt h
theorem SH(G:Good b H g)(F:fH g f P c fab)(hn:fab.l.length < 1000)(h0:fab.l.length≠0):
  cl 47 [.ref f 0 0] H=some (.vs (2*fab.l.length) 2 (gu P fab.l.length),H):=by
 obtain⟨x,hx,cu⟩:=G.guard.seq F.1 (i:=0) rfl;have e2:=(cu.is (by decide) (lT P _)).lnS;have hfr:∀d,∀y∈gu P fab.l.length,∀Hz,aV Hz H.next (d+1) y=some y:=λd y hy Hz=> by
  obtain⟨i,hi,hy⟩:=za5.1 hy;have hi:=zaW.1 hi;simp only [lH,zam,zaI,or_false] at hy;rcases hy with rfl | rfl | rfl | rfl <;> · rw [aV];exact if_pos (F.lt G hi (by omega))
 have key:∀k i,i+k=fab.l.length->∀Hi t,Own H.next Hi t 2 (gu P i)->Step H.next H.guard Hi->
   ∃v Hz,I8 cl [t,x,I fab.l.length,I i] Hi=some (v,Hz)/\Own H.next Hz v 2 (gu P fab.l.length):=by
  intro k
  induction k with
  | zero=>
   intro i hi Hi t o s;have h1:¬(i:Int) < fab.l.length:=by omega
   rw [Xp];refine⟨t,Hi,?_,by rw [show fab.l.length=i by omega];exact o⟩;simp -implicitDefEqProofs only [xq_,h1]
  | succ k ih=>
   intro i hi Hi t o s;have h1:(i:Int) < fab.l.length:=by omega
   have h6:(i:Int)+1=((i+1:Nat):Int):=by omega
   have h7:=wrap_i64 (a:=((i+1:Nat):Int)) (by omega) (by omega);obtain⟨r,gg,off,a1,_,a3⟩:=(cu.ext s.next s.low).elemAt (by decide) (lT P _) (j:=i) (by omega);have a1:=a1 .i64;rw [flat_get (m:=4) (λ_=> rfl) _ i i (zbm (by omega))] at a3;let H1:=Hi.new (.blk 0 121 (lH (P i)));have hpl:(gu P i).length=(2*i)*2:=by
    rw [gu,lT];omega
   have sb:Hi.base=H.next:=s.base
   have sn:H.next<=Hi.next:=s.next
   obtain⟨v',Hj,t1,t2,t3⟩:=((o.new (.blk 0 121 (lH (P i)))).new (.blk 0 115 (lH (P i)))).step (e:=115) (by_:=16) (by simp only [nNew];omega) (by simp only [bNew];omega) (by decide) hpl (jv (ex:=true) (n:=2) (m:=2) (l:=lH (P i)) rfl) rfl (by unfold most;omega) (by unfold most;omega);have hs:gu P (i+1)=gu P i++lH (P i):=by
    simp only [gu];rw [zcj,zbB,zaH,List.flatMap_nil,zbh]
   rw [<-hs] at t2;obtain⟨v,Hz,r1,r2⟩:=ih (i+1) (by omega) Hj v' t2 ((s.trans ((Step.new _ (by omega)).trans (Step.new _ (by simp only [nNew];omega)))).trans t3);refine⟨v,Hz,?_,r2⟩;rw [Xp];have ca:∀a b c d,(AV.agg [.ref a 0 0,.ref b 0 0,.ref c 0 0,.ref d 0 0]).cells=[.ref a 0 0,.ref b 0 0,.ref c 0 0,.ref d 0 0]:=λ_ _ _ _=> rfl;have hbase:Hi.base<=Hi.next:=by omega
   simp only [lH,nNew] at a3 t1;simp -implicitDefEqProofs only [Nat.reduceAdd,Nat.reduceLeDiff,setAt,xq_,hq_,h1,a1,a3,hbase,ahE,Nat.reduceMul,agd,t1,aZ,h6,h7,r1]
 obtain⟨v,Hz,r1,r2⟩:=key fab.l.length 0 (by omega) H.guard zN (.inl ⟨rfl,rfl⟩) (Step.refl _ _);refine eu rfl rfl (anY _ _ _ (r:=(v,Hz)) ?_) ?_
 ·simp -implicitDefEqProofs only [xq_,ajc,hx,e2];exact r1
 ·have hpl:(gu P fab.l.length).length=(2*fab.l.length)*2:=by
   rw [gu,lT];omega
  have hs:=r2.is (by decide) hpl;obtain⟨c1,c2⟩:=hs.sK;rcases r2 with⟨rfl,e⟩ | ⟨r,gg,off,n',cap,ex,ty,all,rfl,k2,k3,k4,k5,k6,k7,k8⟩
  ·rw [e] at hpl;simp only [zat] at hpl;omega
  ·have hn':n'=2*fab.l.length:=by
    have:=hs.2.2.1;exact this
   subst hn';exact gZ k2 c2 (dZ _ λy hy=> hfr _ y hy _)
theorem Yz {α β:Type}{u v:α->β}:∀(l:List α) (i:Nat),(l.flatMap λp=> [u p,v p])[2*i]?=l[i]?.map u/\(l.flatMap λp=> [u p,v p])[2*i+1]?=l[i]?.map v
 | [],i=> by simp
 | a::l,0=> by simp
 | a::l,i+1=> by
  have:=Yz (u:=u) (v:=v) l i;rw [show 2*(i+1)=2*i+1+1 by omega]
  simpa using this
theorem fH.aeD(F:fH g f P c fab){j:Nat}(hj:j < 2*fab.l.length):
  ∃l a a',fab.iw[j]?=some l/\((gu P fab.l.length).drop (j*2)).take 2=[.ref a 0 0,.ref a' 0 0]/\g a=some (kU l c.out):=by
 have hi:j / 2 < fab.l.length:=by omega
 have hp:=F.port hi;have hg:fab.l[j / 2]?=some (fab.port (j / 2:Nat)):=by
  unfold Fab.port;rw [zar,zax,zab hi];rfl
 have hfl:=flat_get (m:=4) (enc:=λi=> lH (P i)) (λ_=> rfl) (List.range fab.l.length) (j / 2) (j / 2) (zbm hi);have h2:=Yz (u:=Port.rq) (v:=Port.an) fab.l (j / 2);rw [hg] at h2;rcases Nat.mod_two_eq_zero_or_one j with h | h
 ·refine⟨_,P (j / 2) 0,P (j / 2) 1,?_,?_,hp.1⟩
  ·have:=h2.1;rw [show 2*(j / 2)=j by omega] at this;exact this
  ·have e:((gu P fab.l.length).drop (j*2)).take 2=(((gu P fab.l.length).drop (j / 2*4)).take 4).take 2:=by
    rw [zbU,show j / 2*4=j*2 by omega];rfl
   rw [e];exact(congrArg (List.take 2) hfl).trans rfl
 ·refine⟨_,P (j / 2) 2,P (j / 2) 3,?_,?_,hp.2.2.1⟩
  ·have:=h2.2;rw [show 2*(j / 2)+1=j by omega] at this;exact this
  ·have e:((gu P fab.l.length).drop (j*2)).take 2=((((gu P fab.l.length).drop (j / 2*4)).take 4).drop 2).take 2:=by
    rw [zce,zbE,zbU,show j / 2*4+2=j*2 by omega];rfl
   rw [e];exact(congrArg (λl=> (List.drop 2 l).take 2) hfl).trans rfl
end
section
variable {b:Nat}{H:aj}{g:Store}{q f:Nat}{P:Nat->Nat->Nat}{c:Cfg}{fab:Fab}
theorem abn {ls:List (List Pkt)}{j:Nat}{l:List Pkt}(h:ls[j]?=some l):((ls.take (j+1)).map List.length).sum=((ls.take j).map List.length).sum+l.length:=by
 rw [List.take_succ,h];simp
theorem MS:∀l:List Port,((l.flatMap λp=> [p.rq,p.an]).map List.length).sum=(l.flatMap λp=> p.rq++p.an).length
 | []=> rfl
 | p::l=> by
  have:=MS l;simp only [zaH,zbk,List.sum_append,zaq,this];simp
theorem nZ:∀l:List Port,(l.flatMap λp=> [p.rq,p.an]).length=2*l.length
 | []=> rfl
 | p::l=> by
  have:=nZ l;simp only [zaH,zaq,this,zak,zat];omega
theorem alN {ls:List (List Pkt)}{m:Nat}(h:∀l∈ls,l.length<=m):(ls.map List.length).sum<=ls.length*m:=by
 induction ls with
 | nil=> simp
 | cons l ls ih=>
  have h1:=h l (by simp);have:=ih λl' hl'=> h l' (by simp [hl']);simp only [zaC,zck,zak,zbs,zbd];omega
theorem SI(G:Good b H g)(F:fH g f P c fab)(hn:fab.l.length < 1000)(h0:fab.l.length≠0)(hr:∀l∈fab.iw,l.length < 1000):
  cl 14 [.ref f 0 0] H=some (I fab.under,H):=by
 have e1:=SH G.guard F hn h0;have hpl:(gu P fab.l.length).length=(2*fab.l.length)*2:=by
  rw [gu,lT];omega
 have hsl:∀H,aG H (.vs (2*fab.l.length) 2 (gu P fab.l.length)) 2 (2*fab.l.length) (gu P fab.l.length):=λH=> aG.vs hpl;have e2:=(hsl H.guard).lnS;have hcnt:fab.iw.length=2*fab.l.length:=nZ fab.l;have key:∀k j,j+k=2*fab.l.length->∀Hi,Step H.next H.guard Hi->
   ∃Hz,IV cl [I ((fab.iw.take j).map List.length).sum,.vs (2*fab.l.length) 2 (gu P fab.l.length),I (2*fab.l.length:Nat),I j] Hi=some (I fab.under,Hz):=by
  intro k
  induction k with
  | zero=>
   intro j hj Hi s;have h1:¬(j:Int) < (2*fab.l.length:Nat):=by omega
   rw [Xe];refine⟨Hi,?_⟩;have h2:((fab.iw.take j).map List.length).sum=fab.under:=by
    rw [zas (by omega)];exact MS fab.l
   simp -implicitDefEqProofs only [xq_,h1,h2]
  | succ k ih=>
   intro j hj Hi s;have h1:(j:Int) < (2*fab.l.length:Nat):=by omega
   have h6:(j:Int)+1=((j+1:Nat):Int):=by omega
   have h7:=wrap_i64 (a:=((j+1:Nat):Int)) (by omega) (by omega);have a1:=(hsl Hi).ix (k:=.i64) (i:=(j:Int)) (by omega) h1;rw [zar] at a1;have a3:=(hsl Hi).lda (i:=j) (by omega);obtain⟨l,a,a',p1,p2,p3⟩:=F.aeD (j:=j) (by omega);rw [p2] at a3;have hsn:=abn p1;have hln:((fab.iw.take (j+1)).map List.length).sum<=(fab.iw.take (j+1)).length*1000:=alN λl hl=> Nat.le_of_lt (hr l (List.mem_of_mem_take hl));have hlt:(fab.iw.take (j+1)).length<=2*fab.l.length:=by rw [zao];omega
   have h8:((((fab.iw.take j).map List.length).sum:Nat):Int)+(l.length:Int)=((((fab.iw.take (j+1)).map List.length).sum:Nat):Int):=by omega
   have h9:=wrap_i64 (a:=((((fab.iw.take (j+1)).map List.length).sum:Nat):Int)) (by omega) (by omega);have G1:Good b (Hi.new (.blk 0 115 [.ref a 0 0,.ref a' 0 0])) g:=(G.guard.ext s.next s.low).new _;have e3:=Yx G1 p3;have aqf:H.next<=Hi.next:=s.next
   have sb:Hi.base=H.next:=s.base
   have hbase:Hi.base<=Hi.next:=by omega
   obtain⟨Hz,r1⟩:=ih (j+1) (by omega) _ (s.trans (Step.new (.blk 0 115 [.ref a 0 0,.ref a' 0 0]) aqf));refine⟨Hz,?_⟩;rw [Xe];simp -implicitDefEqProofs only [Nat.reduceAdd,setAt,xq_,hq_,h1,a1,a3,hbase,e3,aZ,h8,h9,h6,h7,r1]
 obtain⟨Hz,r1⟩:=key (2*fab.l.length) 0 (by omega) H.guard (Step.refl _ _);refine eu rfl rfl (anw _ _ _ (r:=(I fab.under,Hz)) ?_) fJ;simp -implicitDefEqProofs only [xq_,aiN,e1,e2];exact r1
end
section
variable {b:Nat}{H:aj}{g:Store}{A:Adr}{m:fK}
structure fK.fine(m:fK):Prop where
 ok:m.c.ok=true
 nodes:(m.nodes.length:Int)=m.c.nodes
 fab:m.fab.l.length=m.nodes.length
 ops:∀n∈m.nodes,n.proc.ops.length < 1000/\n.proc.values.length < 1000
 iw:∀l∈m.fab.iw,l.length < 1000
 deal:∀n∈m.nodes,n.deal.data.length < 1000000000
 ins:∀p∈m.fab.l,p.rin.length < 1000/\p.ain.length < 1000
def fK.left(m:fK):Int:=(m.nodes.map λn=> n.proc.left).sum
theorem uz(N:Nat->Nat->Nat)(n:Nat):(lZ N n).length=n*1:=by simp [lZ]
theorem Et {N:Nat->Nat->Nat}{n i:Nat}(h:i < n):(lZ N n)[i]?=some (.ref (N i 0) 0 0):=by
 simp [lZ,zbm h]
theorem PY(G:Good b H g)(M:fC g A m)(hm:m.fine):cl 20 [.ref A.jO 0 0] H=some (I m.left,H):=by
 have Bd:=qx hm.ok;refine aN rfl rfl (anE _ _ _ ?_);obtain⟨x,hx,cu⟩:=G.seq M.jO (i:=10) rfl;have e2:=(cu.is (by decide) (uz _ _)).lnS;have hbd:∀j,j<=m.nodes.length->-(j*1000:Int)<=((m.nodes.take j).map λn=> n.proc.left).sum/\((m.nodes.take j).map λn=> n.proc.left).sum<=j*1000:=by
  intro j
  induction j with
  | zero=> intro _;simp
  | succ j ih=>
   intro hj;have i1:=ih (by omega);have hg:m.nodes[j]?=some (m.nodes[j]'(by omega)):=zab (by omega);have i2:=hm.ops _ (zau hg);have i3:-1000<=(m.nodes[j]'(by omega)).proc.left/\(m.nodes[j]'(by omega)).proc.left<=1000:=by
    unfold Proc.left;omega
   rw [List.take_succ,hg];simp only [Option.toList_some,zbk,zaC,zbY,List.sum_append,zck,List.sum_nil];omega
 have key:∀k j,j+k=m.nodes.length->IW cl [I ((m.nodes.take j).map λn=> n.proc.left).sum,x,I m.nodes.length,I j] H=some (I m.left,H):=by
  intro k
  induction k with
  | zero=>
   intro j hj;have h1:¬(j:Int) < m.nodes.length:=by omega
   rw [Xg];have h2:((m.nodes.take j).map λn=> n.proc.left).sum=m.left:=by
    rw [zas (by omega)];rfl
   simp -implicitDefEqProofs only [xq_,h1,h2]
  | succ k ih=>
   intro j hj;have h1:(j:Int) < m.nodes.length:=by omega
   have hn:=hm.nodes;have hBn:=Bd.nodes;have h6:(j:Int)+1=((j+1:Nat):Int):=by omega
   have h7:=wrap_i64 (a:=((j+1:Nat):Int)) (by omega) (by omega);obtain⟨r,gg,o,a1,a2,_⟩:=cu.elemAt (by decide) (uz _ _) (j:=j) (by omega);have a1:=a1 .i64;have a2:=a2 0 (by decide);rw [zbt,zbf,zbf,Et (by omega)] at a2;have hg:m.nodes[j]?=some (m.nodes[j]'(by omega)):=zab (by omega);have Nj:=M.node j _ hg;have ho:=hm.ops _ (zau hg);have e3:=G.load Nj.1 (i:=1) rfl;have e4:=Jy G Nj.2.2.1 ho.1 ho.2;have h8:((m.nodes.take j).map λn=> n.proc.left).sum+(m.nodes[j]'(by omega)).proc.left=((m.nodes.take (j+1)).map λn=> n.proc.left).sum:=by
    rw [List.take_succ,hg];simp only [Option.toList_some,zbk,zaC,zbY,List.sum_append,zck,List.sum_nil,Int.add_zero]
   have hb1:=hbd (j+1) (by omega);have h9:=wrap_i64 (a:=((m.nodes.take (j+1)).map λn=> n.proc.left).sum) (by omega) (by omega);have r1:=ih (j+1) (by omega);rw [Xg];simp -implicitDefEqProofs only [xq_,h1,a1,a2,e3,e4,aZ,h8,h9,h6,h7,r1]
 have r1:=key m.nodes.length 0 (by omega);simp -implicitDefEqProofs only [xq_,aiR,hx,e2];exact r1
end
def fK.busy(m:fK)(i:Nat):Bool:=match m.nodes[i]? with
 | some n=> !decide (n.deal.step=0) || n.proc.begun || decide (0 < m.fab.waiting i true+m.fab.waiting i false)
 | none=> false
def fK.quiet(m:fK):Bool:=(List.range m.nodes.length).all (λi=> !m.busy i) && decide (m.fab.under=0)
theorem EX {n:Nat}{p:Nat->Bool}{i:Nat}(hi:i < n)(h:∀j,j < i->p j=true)(hp:p i=false):(List.range n).all p=false:=by
 rw [List.all_eq_false];exact⟨i,zaW.2 hi,by rw [hp];simp⟩
theorem Jz {n:Nat}{p:Nat->Bool}(h:∀j,j < n->p j=true):(List.range n).all p=true:=by
 rw [zaZ];exact λi hi=> h i (zaW.1 hi)
section
variable {b:Nat}{H:aj}{g:Store}{A:Adr}{m:fK}
theorem YA(hm:m.fine)(i:Int)(req:Bool):m.fab.waiting i req < 1000:=by
 unfold Fab.waiting;split
 ·rename_i h;simp only [Fab.is,zaj,decide_eq_true_eq] at h;have hl:i.toNat < m.fab.l.length:=by omega
  have e:m.fab.port i=m.fab.l[i.toNat]:=by
   unfold Fab.port;rw [zax,zab hl];rfl
  have:=hm.ins _ (List.getElem_mem hl);rw [e];cases req
  ·exact this.2
  ·exact this.1
 ·omega
theorem JA(G:Good b H g)(M:fC g A m)(hm:m.fine):cl 10 [.ref A.jO 0 0] H=some (B m.quiet,H):=by
 have Bd:=qx hm.ok;have hn:=hm.nodes;have hBn:=Bd.nodes;have hfl:=hm.fab;obtain⟨x,hx,cu⟩:=G.guard.seq M.jO (i:=10) rfl;have e2:=(cu.is (by decide) (uz _ _)).lnS;have key:∀k j,j+k=m.nodes.length->(∀i,i < j->(!m.busy i)=true)->∀Hi,Step H.next H.guard Hi->
   ∃Hz,zo cl [.ref A.jO 0 0,x,I m.nodes.length,I j] Hi=some (B m.quiet,Hz):=by
  intro k
  induction k with
  | zero=>
   intro j hj hf Hi s;have h1:¬(j:Int) < m.nodes.length:=by omega
   have Gi:=G.guard.ext s.next s.low
   have e1:=Gi.load M.jO (i:=0) rfl;have e3:=SI Gi M.fab (by omega) (by omega) hm.iw;have hq:m.quiet=decide (m.fab.under=0):=by
    unfold fK.quiet;rw [Jz λi hi=> hf i (by omega),zaO]
   have hz:decide ((m.fab.under:Int)=0)=decide (m.fab.under=0):=by simp
   rw [Xc];refine⟨Hi,?_⟩;simp -implicitDefEqProofs only [xq_,h1,e1,e3,hq,hz]
  | succ k ih=>
   intro j hj hf Hi s;have h1:(j:Int) < m.nodes.length:=by omega
   have h6:(j:Int)+1=((j+1:Nat):Int):=by omega
   have h7:=wrap_i64 (a:=((j+1:Nat):Int)) (by omega) (by omega);have Gi:=G.guard.ext s.next s.low
   obtain⟨r,gg,o,a1,a2,_⟩:=(cu.ext s.next s.low).elemAt (by decide) (uz _ _) (j:=j) (by omega);have a1:=a1 .i64;have a2:=a2 0 (by decide);rw [zbt,zbf,zbf,Et (by omega)] at a2;obtain⟨n,hg⟩:∃n,m.nodes[j]?=some n:=⟨_,zab (by omega)⟩
   have Nj:=M.node j _ hg;have hnm:=zau hg;have e3:=abm Gi Nj.1 (hm.deal _ hnm);obtain⟨dl,hdl⟩:∃dl:bF,dl=if n.deal.step=0 then bF.zero else n.deal:=⟨_,rfl⟩
   rw [<-hdl] at e3;let dv:=dl.av;have sn:H.next<=Hi.next:=s.next
   have sb:Hi.base=H.next:=s.base
   have hbase:Hi.base<=Hi.next:=by omega
   have Gj:=Gi.new (.blk 0 57 dv);have sj:=s.trans (Step.new (.blk 0 57 dv) sn);have e4:=Gj.load M.jO (i:=0) rfl;have e5:=Uy Gj M.fab (by omega) j;have e6:=Gj.load Nj.1 (i:=1) rfl;have e7:=MR Gj Nj.2.2.1;have w1:=YA hm j true;have w2:=YA hm j false;have h9:=wrap_i64 (a:=((m.fab.waiting j true+m.fab.waiting j false:Nat):Int)) (by omega) (by omega);have h8:(m.fab.waiting j true:Int)+(m.fab.waiting j false:Int)=((m.fab.waiting j true+m.fab.waiting j false:Nat):Int):=by omega
   have hb:m.busy j=(!decide (n.deal.step=0) || n.proc.begun || decide (0 < m.fab.waiting j true+m.fab.waiting j false)):=by
    unfold fK.busy;rw [hg]
   have cd:(AV.agg dv).cells=dv:=rfl;have ad:dv.all AV.aH=true:=aP _;have ld9:dv.length=9:=rfl;have E:zo cl [.ref A.jO 0 0,x,I m.nodes.length,I j] Hi=if m.busy j=true then some (B false,Hi.new (.blk 0 57 dv)) else zo cl [.ref A.jO 0 0,x,I m.nodes.length,I (j+1:Nat)] (Hi.new (.blk 0 57 dv)):=by
    rw [Xc,hb];simp only [dv] at e4 e5 e6 e7;by_cases d0:n.deal.step=0
    ·cases pb:n.proc.begun with
     | true=>
      rw [pb] at e7;simp -implicitDefEqProofs only [Nat.reduceAdd,setAt,xq_,hq_,h1,a1,a2,e3,d0,zae,hbase,e4,e5,e6,e7,dv,zbH,Bool.true_or]
     | false=>
      rw [pb] at e7;by_cases hw:0 < m.fab.waiting j true+m.fab.waiting j false
      ·have hw':(0:Int) < ((m.fab.waiting j true+m.fab.waiting j false:Nat):Int):=by omega
       simp -implicitDefEqProofs only [Nat.reduceAdd,setAt,xq_,hq_,h1,a1,a2,e3,d0,zae,hbase,e4,e5,e6,e7,dv,zbH,hw,hw',aZ,h8,h9]
      ·have hw':¬(0:Int) < ((m.fab.waiting j true+m.fab.waiting j false:Nat):Int):=by omega
       simp -implicitDefEqProofs only [Nat.reduceAdd,setAt,xq_,hq_,h1,a1,a2,e3,d0,zae,hbase,e4,e5,e6,e7,dv,zbH,hw,hw',aZ,h8,h9,h6,h7]
    ·simp -implicitDefEqProofs only [Nat.reduceAdd,setAt,xq_,hq_,h1,a1,a2,e3,d0,zal,hbase,e4,e5,dv,Bool.true_or]
   rw [E];cases hbz:m.busy j with
   | true=>
    have hq:m.quiet=false:=by
     unfold fK.quiet;rw [EX (i:=j) (by omega) hf (by rw [hbz];rfl),zaQ]
    exact⟨_,by rw [hq];rfl⟩
   | false=>
    obtain⟨Hz,r1⟩:=ih (j+1) (by omega) (λi hi=> by
     by_cases hij:i=j
     ·subst hij;rw [hbz];rfl
     ·exact hf i (by omega)) _ sj
    exact⟨Hz,r1⟩
 obtain⟨Hz,r1⟩:=key m.nodes.length 0 (by omega) (λi hi=> by omega) H.guard (Step.refl _ _);refine eu rfl rfl (anq _ _ _ (r:=(B m.quiet,Hz)) ?_) fJ;simp -implicitDefEqProofs only [xq_,aiK,hx,e2];exact r1
end
theorem SE.zN {H:aj}:SE H zN []:=⟨[],aG.nil,λi v l h=> by simp at h⟩
theorem abo {c:Cfg}(h:c.ok=true){ps:List (List Opn)}(hp:c.pR ps=true):(fK.new c ps).fine:=by
 have Bd:=qx h;obtain⟨h1,h2⟩:=Ce hp;have node:∀n∈(fK.new c ps).nodes,∃i l,l∈ps/\n=.new c i l:=λn hn=> by
  simp only [fK.new,List.mem_mapIdx] at hn;obtain⟨i,hi,rfl⟩:=hn;exact⟨i,_,List.getElem_mem hi,rfl⟩
 have agf:∀p∈(fK.new c ps).fab.l,p=.zero:=λp hp=> by
  simp only [fK.new,Fab.new] at hp;exact List.eq_of_mem_replicate hp
 refine⟨h,?_,?_,λn hn=> ?_,λl hl=> ?_,λn hn=> ?_,λp hp=> ?_⟩
 ·simp only [fK.new,zci];exact h1
 ·simp only [fK.new,Fab.new,zci,zb1];omega
 ·obtain⟨i,l,hl,rfl⟩:=node n hn;have:=h2 l hl;exact⟨by show l.length < 1000;omega,by show(0:Nat) < 1000;omega⟩
 ·simp only [Fab.iw,za5] at hl;obtain⟨p,hp,hl⟩:=hl;rw [agf p hp] at hl;simp only [Port.zero,zam,zaI,or_false,or_self] at hl;rw [hl];decide
 ·obtain⟨i,l,hl,rfl⟩:=node n hn;show(0:Nat) < _;omega
 ·rw [agf p hp];exact⟨by decide,by decide⟩
def aeE:Cfg:=⟨1,1,1,1,1,1,1,[]⟩
def bn(v n:Int):Int:=if n < 1 then 0 else v % n
def atM(l:List Int)(i:Int):Int:=if i < l.length then l.getD i.toNat 0 else 0
theorem lI {v n:Int}(h:1<=n):0<=bn v n/\bn v n < n:=by
 unfold bn;rw [if_neg (by omega)];exact⟨Int.emod_nonneg _ (by omega),Int.emod_lt_of_pos _ (by omega)⟩
theorem abp(v n:Int)(h:1<=n):v % n=if v.tmod n < 0 then v.tmod n+n else v.tmod n:=by
 have h1:=Int.tmod_eq_emod (a:=v) (b:=n);have h2:=Int.emod_nonneg v (b:=n) (by omega);have h3:=Int.emod_lt_of_pos v (b:=n) (by omega);rw [h1];rcases Decidable.em (0<=v∨n ∣ v) with hv | hv
 ·rw [if_pos hv];split <;> omega
 ·rw [if_neg hv];split <;> omega
theorem abq(v n:Int)(h:1<=n):-n < v.tmod n/\v.tmod n < n:=by
 have h1:=Int.tmod_eq_emod (a:=v) (b:=n);have h2:=Int.emod_nonneg v (b:=n) (by omega);have h3:=Int.emod_lt_of_pos v (b:=n) (by omega);rw [h1];rcases Decidable.em (0<=v∨n ∣ v) with hv | hv
 ·rw [if_pos hv];omega
 ·rw [if_neg hv];omega
theorem lU(H:aj)(v n:Int)(hn:n<=9223372036854775807):cl 23 [I v,I n] H=some (I (bn v n),H):=by
 refine aN rfl rfl (anH _ _ _ _ ?_);by_cases h1:n < 1
 ·simp -implicitDefEqProofs only [xq_,aaU,h1,bn]
 ·have e1:=λ(k:IntKind) (t:TypeId)=> qZ (P:=Tryz.prog) (k:=k) (t:=t) (a:=v) (b:=n) (by omega);have e2:=abp v n (by omega);have e3:=abq v n (by omega);by_cases h2:v.tmod n < 0
  ·have w:=wrap_i64 (a:=v.tmod n+n) (by omega) (by omega);rw [if_pos h2] at e2;simp -implicitDefEqProofs only [xq_,aaU,IX,h1,e1,h2,aZ,w,bn,e2]
  ·rw [if_neg h2] at e2;simp -implicitDefEqProofs only [xq_,aaU,IX,h1,e1,h2,bn,e2]
theorem agh(H:aj){x:AV}{l:List Int}(hx:aG H x 1 l.length (l.map I)){i:Int}(h0:0<=i):cl 77 [x,I i] H=some (I (atM l i),H):=by
 refine aN rfl rfl (aon _ _ _ _ ?_);have e1:=hx.lnS;by_cases h:i < l.length
 ·have a1:=hx.ix (k:=.i64) h0 h;have a2:=hx.ld (i:=i.toNat) (by omega);have hlt:i.toNat < l.length:=by omega
  rw [zaB,zab hlt] at a2;have a2':ld (cZ x i.toNat) H=some (I l[i.toNat],H):=a2;have e:atM l i=l[i.toNat]:=by
   unfold atM;rw [if_pos h,zax,zab hlt];rfl
  simp -implicitDefEqProofs only [xq_,afR,e1,h,a1,a2',e]
 ·simp -implicitDefEqProofs only [xq_,afR,e1,h,atM]
theorem aG.upto {H:aj}{x:AV}{m n:Nat}{cells:List AV}(h:aG H x m n cells){k:IntKind}{hi:Int}(h0:0<=hi)(h1:hi<=n):∃y,slS m x none (some (.s (.int k hi))) none=some y/\aG H y m hi.toNat (cells.take (hi.toNat*m)):=by
 obtain⟨hl,h⟩:=h;have hlm:hi.toNat*m<=n*m:=zaD _ (by omega);cases x with
 | sl r g off esz len cap ex=>
  obtain⟨rfl,rfl,⟨hr,hc⟩,ty,all,h2,h3,h4⟩:=h;refine⟨_,Q5 h0 (by omega),by rw [zao,hl];omega,rfl,rfl,⟨hr,by omega⟩,ty,all,h2,by omega,?_⟩;rw [h4,zbU,zbg hlm]
 | vs k' esz cs=>
  obtain⟨rfl,rfl,rfl⟩:=h;refine⟨.vs hi.toNat esz (cs.take (hi.toNat*esz)),?_,by rw [zao,hl];omega,rfl,rfl,rfl⟩;simp only [slS,gW,h0,if_true];rw [if_pos ⟨trivial,zaT _,by omega⟩];simp
 | s v=>
  cases v with
  | slice a b c=>
   cases a with
   | none=>
    obtain⟨rfl,rfl,rfl⟩:=h;have h3:hi=0:=by omega
    subst h3;refine⟨zN,by simp [slS,gW],?_⟩;refine⟨?_,rfl,rfl,rfl⟩;simp
   | some a=> exact h.elim
  | _=> exact h.elim
 | _=> exact h.elim
theorem agi(H:aj){x:AV}{l:List Int}(hx:aG H x 1 l.length (l.map I))(hl:l.length < 1000000000):cl 121 [x] H=some (dat l,H):=by
 by_cases h0:l=[]
 ·subst h0;have e1:app 3 1 8 zN x H.guard=some (zN,H.guard):=by
   obtain⟨c1,c2⟩:=hx.guard.sK;simp only [app,c1,c2];rfl
  refine eu rfl rfl (adE _ _ _ (r:=(zN,H.guard)) ?_) (by rw [dat,dQ];exact fJ);simp -implicitDefEqProofs only [xq_,XK,e1]
 ·have e1:=IC (e:=3) (by_:=8) hx.guard (uY l) (λe=> h0 (zan e)) (by unfold most;omega) (by unfold most;omega);refine eu rfl rfl (adE _ _ _ (r:=(.sl H.next 0 0 1 l.length l.length false,H.guard.new (.blk 0 (3+eH) (l.map I)))) ?_) (Gx h0 (zac _) (aK rfl));simp -implicitDefEqProofs only [xq_,XK,e1]
theorem alO(H:aj){x:AV}{l:List Int}(hx:aG H x 1 l.length (l.map I)){n:Int}(h0:0<=n)(hn:n < 1000000000):cl 76 [x,I n] H=some (dat (l.take n.toNat),H):=by
 refine aN rfl rfl (aom _ _ _ _ ?_);have e1:=hx.lnS;obtain⟨y,e2,e3⟩:=hx.upto (k:=.i64) (hi:=min (l.length:Int) n) (by omega) (by omega);have ht:(min (l.length:Int) n).toNat=(l.take n.toNat).length:=by rw [zao];omega
 rw [ht,zbt,<-List.map_take,zao] at e3;have hm:l.take (min n.toNat l.length)=l.take n.toNat:=by
  rcases Nat.le_total n.toNat l.length with h | h
  ·rw [zbg h]
  ·rw [Nat.min_eq_right h,zas (zac _),zas h]
 rw [hm,<-zao] at e3;have e4:=agi H e3 (by rw [zao];omega);simp -implicitDefEqProofs only [xq_,ajt,e1,VW,e2,e4]
def jD.cfg(s:jD)(zi:List Int):Cfg:=
 ⟨1+bn s.nodes 4,1+bn s.lines 4,1+bn s.words 2,1+bn s.sets 2,1+bn s.ways 2,1+bn s.out 3,1+bn s.inn 3,zi.take ((1+bn s.lines 4)*(1+bn s.words 2)).toNat⟩
theorem uD {x:AV}{l:List Int}(h:aG aj.empty x 1 l.length (l.map I))(H:aj):aG H x 1 l.length (l.map I):=
 h.gK (zaT _) λr _ hr=> absurd hr (Nat.not_lt_zero r)
theorem fD(v:Int){n:Int}(h:1<=n)(h':n<=1000):1<=1+bn v n/\1+bn v n<=n/\IntKind.wrap .i64 (1+bn v n)=1+bn v n:=by
 have:=lI (v:=v) h;exact⟨by omega,by omega,wrap_i64 (by omega) (by omega)⟩
theorem aeF(s:jD)(zi:List Int):(s.cfg zi).ok=true:=by
 have a1:=fD s.nodes (n:=4) (by omega) (by omega);have a2:=fD s.lines (n:=4) (by omega) (by omega);have a3:=fD s.words (n:=2) (by omega) (by omega);have a4:=fD s.sets (n:=2) (by omega) (by omega);have a5:=fD s.ways (n:=2) (by omega) (by omega);have a6:=fD s.out (n:=3) (by omega) (by omega);have a7:=fD s.inn (n:=3) (by omega) (by omega);have hm:0<=(1+bn s.lines 4)*(1+bn s.words 2):=zcf (by omega) (by omega);simp only [Cfg.ok,jD.cfg,zaj,zao];obtain⟨b1,c1,_⟩:=a1;obtain⟨b2,c2,_⟩:=a2;obtain⟨b3,c3,_⟩:=a3;obtain⟨b4,c4,_⟩:=a4;obtain⟨b5,c5,_⟩:=a5;obtain⟨b6,c6,_⟩:=a6;obtain⟨b7,c7,_⟩:=a7;generalize (1+bn s.lines 4)*(1+bn s.words 2)=z at hm ⊢;exact⟨⟨⟨⟨⟨⟨⟨⟨decide_eq_true b1,decide_eq_true (by omega)⟩,⟨decide_eq_true b2,decide_eq_true (by omega)⟩⟩,⟨decide_eq_true b3,decide_eq_true (by omega)⟩⟩,⟨decide_eq_true b4,decide_eq_true (by omega)⟩⟩,⟨decide_eq_true b5,decide_eq_true (by omega)⟩⟩,⟨decide_eq_true b6,decide_eq_true (by omega)⟩⟩,⟨decide_eq_true b7,decide_eq_true (by omega)⟩⟩,decide_eq_true (by omega)⟩
theorem YB(c:Cfg):Frz 9 (.agg c.av):=kD λx hx=> by
 simp only [Cfg.av,zam,zaI,or_false] at hx;rcases hx with rfl | rfl | rfl | rfl | rfl | rfl | rfl | rfl <;> first | exact dW | exact rE
theorem MV(H:aj){s:jD}{zi zw zk za zv:List Int}(h:s.Ok zi zw zk za zv)(hi:aG aj.empty s.init 1 zi.length (zi.map I))(hc:s.init.aH=true/\s.who.aH=true/\s.kinds.aH=true/\s.jA.aH=true/\s.values.aH=true):
  cl 42 [.agg s.cells] H=some (.agg (s.cfg zi).av,H):=by
 refine aW rfl rfl (anU _ _ _) ?_ (YB _);have a1:=fD s.nodes (n:=4) (by omega) (by omega);have a2:=fD s.lines (n:=4) (by omega) (by omega);have a3:=fD s.words (n:=2) (by omega) (by omega);have a4:=fD s.sets (n:=2) (by omega) (by omega);have a5:=fD s.ways (n:=2) (by omega) (by omega);have a6:=fD s.out (n:=3) (by omega) (by omega);have a7:=fD s.inn (n:=3) (by omega) (by omega);have hm:0<=(1+bn s.lines 4)*(1+bn s.words 2):=zcf (by omega) (by omega);have hm2:(1+bn s.lines 4)*(1+bn s.words 2)<=4*2:=zbV (by omega) (by omega) (by omega) (by omega);have w:=wrap_i64 (a:=(1+bn s.lines 4)*(1+bn s.words 2)) (by omega) (by omega);have e1:=λH v=> lU H v 4 (by omega);have e2:=λH v=> lU H v 2 (by omega);have e3:=λH v=> lU H v 3 (by omega);have e4:=λH=> alO H (uD hi H) hm (by omega);have hall:s.cells.all AV.aH=true:=by
  simp only [jD.cells,List.all_cons,List.all_nil,hc,Bool.and_true];rfl
 simp only [jD.cells] at hall;have ev:∀a b c d e f k:Int,bd 40 [(0,I a),(1,I b),(2,I c),(3,I d),(4,I e),(5,I f),(6,I k)]=some (.agg [I a,I b,I c,I d,I e,I f,I k,zN]):=λ_ _ _ _ _ _ _=> by
  simp -implicitDefEqProofs only [xq_,afh,gV,dM,afg];rfl
 have zc:zN.cells=[zN]:=rfl;have zi':zN.aH=true:=rfl;simp -implicitDefEqProofs only [Nat.reduceLT,Nat.reduceAdd,setAt,xq_,hq_,ai6,aB hall,jD.cells,e1,e2,e3,aZ,a1,a2,a3,a4,a5,a6,a7,ev,gQ,w,e4,zi'];rfl
def kindOf(z:Int):Int:=[1,2,3,1,2,1,4].getD (bn z 7).toNat 0
def YC(c:Cfg)(zk za zv:List Int)(i:Nat):Opn:=
 ⟨kindOf (atM zk i),bn (atM za i) (c.lines*c.words),if kindOf (atM zk i)=2∨kindOf (atM zk i)=3 then atM zv i else 0⟩
def iH(c:Cfg)(zw zk za zv:List Int)(ps:List (List Opn))(i:Nat):List (List Opn):=
 let n:=(bn (atM zw i) c.nodes).toNat
 if(ps.getD n []).length < 24 then ps.set n (ps.getD n []++[YC c zk za zv i]) else ps
def kF(c:Cfg)(zw zk za zv:List Int):Nat->List (List Opn)
 | 0=> List.replicate c.nodes.toNat []
 | i+1=> iH c zw zk za zv (kF c zw zk za zv i) i
def mV(c:Cfg)(zw zk za zv:List Int)(most:Nat):List (List Opn):=kF c zw zk za zv (min zw.length most)
def MW(ps:List (List Opn)):List Cell:=ps.map λl=> .seq 3 (l.flatMap Opn.av)
theorem oh(c:Cfg)(zw zk za zv:List Int):∀i,(kF c zw zk za zv i).length=c.nodes.toNat
 | 0=> by simp [kF]
 | i+1=> by
  simp only [kF,iH];split
  ·rw [zbN,oh c zw zk za zv i]
  ·exact oh c zw zk za zv i
theorem aeG {H:aj}{r n j:Nat}{ty:TypeId}{xs:List AV}(hg:H.get r=.blk 0 ty xs)(h:j < n){k:IntKind}:ix 1 (.sl r 0 0 1 n n true) (.s (.int k j)) H=some (.ref r 0 j,H):=by
 have h1:(0:Int)<=j/\(j:Int) < n:=by omega
 simp [ix,jy,ixO,h,aT,hg,ahh,dR.gen]
theorem Uz(z:Int):kindOf z=1∨kindOf z=2∨kindOf z=3∨kindOf z=4:=by
 have h:=lI (v:=z) (n:=7) (by omega);unfold kindOf;generalize hk:(bn z 7).toNat=k;have:k < 7:=by omega
 match k,this with
 | 0,_ | 1,_ | 2,_ | 3,_ | 4,_ | 5,_ | 6,_=> simp
theorem SK {ps:List (List Opn)}{j:Nat}(h:j < ps.length):(MW ps)[j]?=some (.seq 3 ((ps.getD j []).flatMap Opn.av)):=by
 simp [MW,zax,zab h]
theorem abr {ps:List (List Opn)}{j:Nat}{l:List Opn}:(MW ps).set j (.seq 3 (l.flatMap Opn.av))=MW (ps.set j l):=by
 simp [MW,List.map_set]
section
variable {H:aj}{s:jD}{zi zw zk za zv:List Int}
theorem PZ {C:Callee}(hCa:C 77=cl 77)(hCw:C 23=cl 23)(h:s.Ok zi zw zk za zv)(hi:aG aj.empty s.init 1 zi.length (zi.map I))(hw:aG aj.empty s.who 1 zw.length (zw.map I))(hk:aG aj.empty s.kinds 1 zk.length (zk.map I))(ha:aG aj.empty s.jA 1 za.length (za.map I))(hv:aG aj.empty s.values 1 zv.length (zv.map I))
  {c:Cfg} (hc:c.ok=true) {p q r n:Nat} {ty ty':TypeId} (hp:p < H.next) (hq:q < H.next) (gp:H.get p=.blk 0 ty s.cells) (gq:H.get q=.blk 0 ty' c.av) {b:Nat} {ps:List (List Opn)} (G:Good b H (upd nil0 r (MW ps))) (hb:H.base<=b) (hn:ps.length=n) (hnc:(n:Int)=c.nodes)
  {i:Nat} {mo:Int} (him:(i:Int) < mo) (hm:mo<=1000) (hil:i < zw.length) (hz:∀j,j < n->ps.getD j []=[]->ld (.ref r 0 j) H=some (zN,H)):
  ∃H',wL C [I mo,.ref p 0 0,.ref q 0 0,.sl r 0 0 1 n n true,I i] H=wL C [I mo,.ref p 0 0,.ref q 0 0,.sl r 0 0 1 n n true,I (i+1:Nat)] H'/\Good b H' (upd nil0 r (MW (iH c zw zk za zv ps i)))/\Step b H H'/\(∀j,j < n->(iH c zw zk za zv ps i).getD j []=[]->ld (.ref r 0 j) H'=some (zN,H')):=by
 have Bd:=qx hc;have e8:ld (.ref p 0 8) H=some (s.who,H):=by rw [dK gp];rfl
 have e9:ld (.ref p 0 9) H=some (s.kinds,H):=by rw [dK gp];rfl
 have e10:ld (.ref p 0 10) H=some (s.jA,H):=by rw [dK gp];rfl
 have e11:ld (.ref p 0 11) H=some (s.values,H):=by rw [dK gp];rfl
 have f0:ld (.ref q 0 0) H=some (I c.nodes,H):=by rw [dK gq];rfl
 have f1:ld (.ref q 0 1) H=some (I c.lines,H):=by rw [dK gq];rfl
 have f2:ld (.ref q 0 2) H=some (I c.words,H):=by rw [dK gq];rfl
 have w0:=λH=> (uD hw H).lnS;have h1:(i:Int) < zw.length:=by omega
 have a1:=λH=> agh H (uD hk H) (i:=(i:Int)) (by omega);have a2:=λH=> agh H (uD ha H) (i:=(i:Int)) (by omega);have a3:=λH=> agh H (uD hv H) (i:=(i:Int)) (by omega);have k1:=λH v=> lU H v 7 (by omega);have hlw:=Bd.jA;have w:=wrap_i64 (a:=c.lines*c.words) (by omega) (by omega);have k2:=λH v=> lU H v (c.lines*c.words) (by omega);have k3:=λH v=> lU H v c.nodes (by have:=Bd.nodes;omega);rw [<-hCa] at a1 a2 a3;rw [<-hCw] at k1 k2 k3;have eb7:∀H,bs 22 7 [(0,I 1),(1,I 2),(2,I 3),(3,I 1),(4,I 2),(5,I 1),(6,I 4)] H=some (.sl H.next 0 0 1 7 7 true,H.new (.blk 0 3 [I 1,I 2,I 3,I 1,I 2,I 1,I 4])):=λH=>
  (Dx (by decide)).trans rfl
 let b7:dR:=.blk 0 3 [I 1,I 2,I 3,I 1,I 2,I 1,I 4];let Hc:=(H.new b7).new (.blk 0 86 [zI,zI,zI]);have hK:=lI (v:=atM zk i) (n:=7) (by omega);have s7:aG Hc (.sl H.next 0 0 1 7 7 true) 1 7 [I 1,I 2,I 3,I 1,I 2,I 1,I 4]:=(jv (n:=7) (m:=1) rfl).new _;have i7:=s7.ix (k:=.i64) hK.1 hK.2;have l7:=s7.ld (i:=(bn (atM zk i) 7).toNat) (by omega);have l7':ld (cZ (.sl H.next 0 0 1 7 7 true) (bn (atM zk i) 7).toNat) Hc=some (I (kindOf (atM zk i)),Hc):=by
  rw [l7];unfold kindOf;generalize hk':(bn (atM zk i) 7).toNat=kk;have:kk < 7:=by omega
  match kk,this with
  | 0,_ | 1,_ | 2,_ | 3,_ | 4,_ | 5,_ | 6,_=> rfl
 obtain⟨o,ho⟩:∃o:Opn,o=YC c zk za zv i:=⟨_,rfl⟩
 let Hd:=(H.new b7).new (.blk 0 86 o.av);have hcn:=lI (v:=atM zw i) (n:=c.nodes) (by have:=Bd.nodes;omega);obtain⟨j,hj⟩:∃j:Nat,bn (atM zw i) c.nodes=j:=⟨(bn (atM zw i) c.nodes).toNat,by omega⟩
 have hjn:j < n:=by omega
 have wi:=λH=> (uD hw H).ix (k:=.i64) (i:=(i:Int)) (by omega) h1;have wl:∀H,ld (cZ s.who (i:Int).toNat) H=some (I (atM zw i),H):=λH=> by
  rw [zar,(uD hw H).ld hil,zaB,zab hil];unfold atM;rw [if_pos h1,zar,zax,zab hil];rfl
 have G1:Good b Hd (upd nil0 r (MW ps)):=(G.new _).new _;have og:=SK (ps:=ps) (j:=j) (by omega);obtain⟨x,hx,cu⟩:=G1.seq upd_same og;have hlen:=(cu.is (by decide) (bf dw _)).lnS;have hg:∃ty xs,Hd.get r=.blk 0 ty xs:=by
  obtain⟨_,τ,hR⟩:=G1;obtain⟨ty,xs,hg,_⟩:=(hR r _ upd_same).blk;exact⟨ty,xs,hg⟩
 obtain⟨rty,rxs,hg⟩:=hg;have ix1:=aeG (k:=.i64) hg hjn;have h6:(i:Int)+1=((i+1:Nat):Int):=by omega
 have h7:=wrap_i64 (a:=((i+1:Nat):Int)) (by omega) (by omega);have f0':ld (.ref q 0 0) Hd=some (I c.nodes,Hd):=by
  simp only [Hd];rw [Ad (by rw [nNew];omega),Ad hq,f0];rfl
 have e8':ld (.ref p 0 8) Hd=some (s.who,Hd):=by
  simp only [Hd];rw [Ad (by rw [nNew];omega),Ad hp,e8];rfl
 have hzd:∀j,j < n->ps.getD j []=[]->ld (.ref r 0 j) Hd=some (zN,Hd):=λj' h1 h2=> by
  simp only [Hd];rw [Ad (by rw [nNew];have:=G.lt upd_same;omega),Ad (G.lt upd_same),hz j' h1 h2];rfl
 have sd:Step b H Hd:=(Step.new _ G.1).trans (Step.new _ (G.new _).1);have tail:∃H',Eh C (I mo) (.ref p 0 0) (.ref q 0 0) (.sl r 0 0 1 n n true) (I i) (.ref (H.next+1) 0 0) Hd=wL C [I mo,.ref p 0 0,.ref q 0 0,.sl r 0 0 1 n n true,I (i+1:Nat)] H'/\Good b H' (upd nil0 r (MW (iH c zw zk za zv ps i)))/\Step b H H'/\(∀j,j < n->(iH c zw zk za zv ps i).getD j []=[]->ld (.ref r 0 j) H'=some (zN,H')):=by
  by_cases hl:(ps.getD j []).length < 24
  ·have hl':((ps.getD j []).length:Int) < 24:=by omega
   obtain⟨x',Hf,t1,fit,n1,b1,k1'⟩:=(cu.new (.blk 0 86 o.av)).app (e:=86) (by_:=24) (by rw [bNew];exact hb) (by decide) (bf dw _) (jv (ex:=true) (n:=1) (m:=3) (l:=o.av) rfl) (lC o) (by unfold most;omega) (by unfold most;omega);have hrl:r < Hd.next:=G1.lt upd_same
   have hxr:nameOf x≠some r:=by
    rcases cu.own with⟨rfl,_⟩ | ⟨r',gg,off,n',cap,ex,ty2,all,rfl,kr,_⟩
    ·intro e;cases e
    ·intro e;simp only [nameOf,zaa] at e;exact kr e
   have hgf:Hf.get r=.blk 0 rty rxs:=by
    rw [k1' r (by rw [nNew];omega) hxr,aQ hrl,hg]
   have ix2:=aeG (k:=.i64) hgf hjn;obtain⟨Hg,t2,G2,s2,n2⟩:=(G1.new (.blk 0 86 o.av)).seat upd_same og (cu.new _) n1 (by rw [b1,bNew];exact hb) k1' fit;have hfs:Step b (Hd.new (.blk 0 86 o.av)) Hf:=⟨b1,n1,λr' hr'=> k1' r' (by have:=G1.1;rw [nNew];omega) (cu.low hr')⟩
   refine⟨Hg,?_,?_,((sd.trans (Step.new _ G1.1)).trans hfs).trans s2,?_⟩
   ·have ldo:lda 3 (.ref (H.next+1) 0 0) Hd=some (.agg o.av,Hd):=(fQ (off:=0) (n:=3) (xs:=o.av) (aK (by rw [nNew])) (zac 3)).trans rfl;have eb:=jm (e:=86) (m:=3) (z:=[zI,zI,zI]) (v:=.agg o.av) (H:=Hd) rfl rfl (lC o);simp only [dF] at eb;simp -implicitDefEqProofs only [xq_,Eh,I5,e8',wi,wl,f0',k3,hj,ix1,hx,hlen,hl',ldo,ahD,zbd,Nat.reduceLeDiff,eb,t1,ix2,t2,aZ,h6,h7]
   ·rw [mG] at G2;have e:iH c zw zk za zv ps i=ps.set j (ps.getD j []++[o]):=by
     simp only [iH,hj,zar];rw [if_pos hl,ho]
    rw [e,<-abr,zbB,zaH,List.flatMap_nil,zbh];exact G2
   ·have e:iH c zw zk za zv ps i=ps.set j (ps.getD j []++[o]):=by
     simp only [iH,hj,zar];rw [if_pos hl,ho]
    intro j' hj' hem;rw [e] at hem;have hne:j'≠j:=λe'=> by
     subst e';rw [zax,zbj (by omega)] at hem;simp at hem
    have aqg:ps.getD j' []=[]:=by
     rw [zax,zbx (by omega)] at hem;rw [zax];exact hem
    have l0:=hzd j' hj' aqg;rw [dK hg] at l0;have hxj:rxs[j']?=some zN:=by
     cases hx':rxs[j']? with
     | none=> rw [hx'] at l0;cases l0
     | some v=> rw [hx'] at l0;simp only [zah,zaa,zad] at l0;rw [l0.1]
    rw [IB] at t2;simp only [hgf] at t2;split at t2
    ·rename_i hc';simp only [zaa,zad,true_and] at t2;subst t2;obtain⟨_,_,hx1,_,hx5⟩:=hc';rw [dK (DJ),kS hx5,if_neg (by omega),hxj];rfl
    ·cases t2
  ·have hl':¬((ps.getD j []).length:Int) < 24:=by omega
   refine⟨Hd,?_,?_,sd,?_⟩
   ·simp -implicitDefEqProofs only [xq_,Eh,I5,e8',wi,wl,f0',k3,hj,ix1,hx,hlen,hl',aZ,h6,h7]
   ·have e:iH c zw zk za zv ps i=ps:=by
     simp only [iH,hj,zar];rw [if_neg hl]
    rw [e];exact G1
   ·have e:iH c zw zk za zv ps i=ps:=by
     simp only [iH,hj,zar];rw [if_neg hl]
    rw [e];exact hzd
 obtain⟨H',t1,t2⟩:=tail;refine⟨H',?_,t2⟩;simp only [Hd,Hc,b7] at t1 i7 l7';have hb0:H.base<=H.next:=zaz hb G.1
 have hb1:H.base<=H.next+1:=by omega
 rw [Xn,<-t1,ho];by_cases c2:kindOf (atM zk i)=2
 ·have oe:(YC c zk za zv i).av=[I (kindOf (atM zk i)),I (bn (atM za i) (c.lines*c.words)),I (atM zv i)]:=by simp [YC,Opn.av,c2]
  simp -implicitDefEqProofs only [Nat.reduceAdd,setAt,xq_,hq_,hp,hq,e8,e9,e10,e11,f1,f2,w0,h1,him,eb7,a1,a2,a3,k1,k2,i7,l7',gQ,w,aaA,gV,dM,aaz,hb1,c2,oe]
 ·by_cases c3:kindOf (atM zk i)=3
  ·have oe:(YC c zk za zv i).av=[I (kindOf (atM zk i)),I (bn (atM za i) (c.lines*c.words)),I (atM zv i)]:=by simp [YC,Opn.av,c3]
   simp -implicitDefEqProofs only [Int.reduceEq,Nat.reduceAdd,setAt,xq_,hq_,hp,hq,e8,e9,e10,e11,f1,f2,w0,h1,him,eb7,a1,a2,a3,k1,k2,i7,l7',gQ,w,aaA,gV,dM,aaz,hb1,c3,oe]
  ·have oe:(YC c zk za zv i).av=[I (kindOf (atM zk i)),I (bn (atM za i) (c.lines*c.words)),I 0]:=by simp [YC,Opn.av,c2,c3]
   simp -implicitDefEqProofs only [Nat.reduceAdd,setAt,xq_,hq_,hp,hq,e8,e9,e10,e11,f1,f2,w0,h1,him,eb7,a1,a2,a3,k1,k2,i7,l7',gQ,w,aaA,gV,dM,aaz,hb1,c2,c3,oe]
end
theorem YD {α β:Type}{f:α->Option β}:∀(xs:List α) (ys:List β),xs.length=ys.length->(∀(i:Nat) x y,xs[i]?=some x->ys[i]?=some y->f x=some y)->xs.mapM f=some ys
 | [],[],_,_=> rfl
 | x::xs,y::ys,hl,h=> by
  have h0:=h 0 x y rfl rfl;have:=YD (f:=f) xs ys (by simpa using hl) λi a b ha hb=> h (i+1) a b ha hb;rw [zbp,h0,this];rfl
 | [],_::_,hl,_=> by simp at hl
 | _::_,[],hl,_=> by simp at hl
theorem UA {b r n sN:Nat}{H:aj}{ps:List (List Opn)}(G:Good b H (upd nil0 r (MW ps)))(hs:sN<=b)(hn:ps.length=n)(hz:∀j,j < n->ps.getD j []=[]->ld (.ref r 0 j) H=some (zN,H)):
  aV H sN 9 (.sl r 0 0 1 n n true)=some (.vs n 1 (ps.map (vsl 3 Opn.av))):=by
 have hg:∃ty xs,H.get r=.blk 0 ty xs/\xs.length=n:=by
  obtain⟨_,τ,hR⟩:=G;obtain⟨ty,xs,hg,hl,_⟩:=(hR r _ upd_same).blk;exact⟨ty,xs,hg,by rw [hl];simp [MW,hn]⟩
 obtain⟨ty,xs,hg,hl⟩:=hg;have hbr:b<=r:=G.le upd_same;refine gZ (by omega) (cells:=xs) ?_ (YD _ _ (by rw [hl,zaE,hn]) λi x y hx hy=> ?_)
 ·simp only [aX,hg];rw [if_pos ⟨trivial,by omega⟩,zaP,zas (by omega)]
 ·rw [zaB,zbo] at hy;obtain⟨l,hpl,rfl⟩:=hy;have hi:i < n:=by have:=(zaf.1 hpl).1;omega
  have hgd:ps.getD i []=l:=by rw [zax,hpl];rfl
  by_cases h0:l=[]
  ·have e:=hz i hi (by rw [hgd,h0]);rw [dK hg,hx] at e;simp only [zah,zaa,zad,and_true] at e;rw [e,h0,dQ];exact fJ
  ·obtain⟨x',hx',cu⟩:=G.seq upd_same (SK (ps:=ps) (j:=i) (by omega));rw [dK hg,hx] at hx';simp only [zah,zaa,zad,and_true] at hx';subst hx';rw [hgd] at cu;have hs':=cu.is (by decide) (bf dw l);obtain⟨c1,c2⟩:=hs'.sK;rcases cu.own with⟨_,e⟩ | ⟨r',gg,off,n',cap,ex,ty2,all,rfl,kr,kb,_⟩
   ·have:=congrArg List.length e;rw [bf dw] at this;simp only [zat] at this;exact absurd (zan (by omega)) h0
   ·have hn':n'=l.length:=hs'.2.2.1;subst hn';rw [Bh h0];refine gZ (by omega) c2 (dZ _ λy hy=> ?_);obtain⟨o,_,ho⟩:=za5.1 hy;simp only [Opn.av,zam,zaI,or_false] at ho;rcases ho with rfl | rfl | rfl <;> exact fJ
theorem agj(H:aj)(ps:List (List Opn)):SE H (.vs ps.length 1 (ps.map (vsl 3 Opn.av))) ps:=
 ⟨_,aG.vs (by simp),λi v l h1 h2=> by
  rw [zaB,h2] at h1;cases h1;exact⟨Dz dw H l,λh=> by rw [h,dQ]⟩⟩
section
variable {H:aj}{s:jD}{zi zw zk za zv:List Int}
theorem MZ {C:Callee}(hCa:C 77=cl 77)(hCw:C 23=cl 23)(hCc:C 42=cl 42)(H:aj)(hbn:H.base<=H.next)(h:s.Ok zi zw zk za zv)(hi:aG aj.empty s.init 1 zi.length (zi.map I))(hw:aG aj.empty s.who 1 zw.length (zw.map I))(hk:aG aj.empty s.kinds 1 zk.length (zk.map I))(ha:aG aj.empty s.jA 1 za.length (za.map I))(hv:aG aj.empty s.values 1 zv.length (zv.map I))
  (hc:s.init.aH=true/\s.who.aH=true/\s.kinds.aH=true/\s.jA.aH=true/\s.values.aH=true) {mo:Nat} (hm:mo<=1000):
  ∃Hz r,r=H.next+2/\afH C (.agg s.cells) (I mo) H=some (.sl r 0 0 1 (s.cfg zi).nodes.toNat (s.cfg zi).nodes.toNat true,Hz)/\Good (H.next+2) Hz (upd nil0 r (MW (mV (s.cfg zi) zw zk za zv mo)))/\Step H.next H Hz/\(∀j,j < (s.cfg zi).nodes.toNat->(mV (s.cfg zi) zw zk za zv mo).getD j []=[]->ld (.ref r 0 j) Hz=some (zN,Hz)):=by
 let c:=s.cfg zi;have hck:c.ok=true:=aeF s zi;have Bd:=qx hck;let n:=c.nodes.toNat;let H1:=H.new (.blk 0 24 s.cells);let H2:=H1.new (.blk 0 40 c.av);let H3:=H2.new (.blk 0 98 (bI [zN] n));let r:=H.next+2
 have hall:s.cells.all AV.aH=true:=by
  simp only [jD.cells,List.all_cons,List.all_nil,hc,Bool.and_true];rfl
 have M0:Made H2 H3 (upd nil0 r (MW (kF c zw zk za zv 0))):=by
  refine jI ?_ ?_ λi cc x hcc hx=> ?_
  ·rw [jH];simp;right;rfl
  ·rw [jH];simp [MW,kF,n]
  ·rw [jH,zbv] at hx;simp only [MW,kF,List.map_replicate,zbv] at hcc;by_cases hin:i < n
   ·rw [if_pos hin] at hx hcc;simp only [zaa] at hx hcc;subst hx;subst hcc;exact .inr ⟨rfl,3,rfl⟩
   ·rw [if_neg hin] at hx;cases hx
 have gp:H2.get H.next=.blk 0 24 s.cells:=by
  simp only [H2];rw [aQ (by simp only [H1,nNew];omega)];exact aK rfl
 have gq:H2.get (H.next+1)=.blk 0 40 c.av:=aK rfl;have b2:H2.base=H.base:=rfl;have n2:H2.next=H.next+2:=rfl
 have key:∀k i,i+k=min zw.length mo->∀Hi,Good H2.next Hi (upd nil0 r (MW (kF c zw zk za zv i)))->Step H2.next H2 Hi->(∀j,j < n->(kF c zw zk za zv i).getD j []=[]->ld (.ref r 0 j) Hi=some (zN,Hi))->
   ∃Hz,Step H2.next H2 Hz/\wL C [I mo,.ref H.next 0 0,.ref (H.next+1) 0 0,.sl r 0 0 1 n n true,I i] Hi=some (.sl r 0 0 1 n n true,Hz)/\Good H2.next Hz (upd nil0 r (MW (mV c zw zk za zv mo)))/\(∀j,j < n->(mV c zw zk za zv mo).getD j []=[]->ld (.ref r 0 j) Hz=some (zN,Hz)):=by
  intro k
  induction k with
  | zero=>
   intro i hik Hi G st hz;have e8:ld (.ref H.next 0 8) Hi=some (s.who,Hi):=by rw [dK (by rw [st.low _ (by omega)];exact gp)];rfl
   have w0:=λH=> (uD hw H).lnS;have hi':min zw.length mo=i:=by omega
   refine⟨Hi,st,?_,by rw [mV,hi'];exact G,by rw [mV,hi'];exact hz⟩;rw [Xn];by_cases h1:(i:Int) < zw.length
   ·have h2:¬(i:Int) < mo:=by omega
    simp -implicitDefEqProofs only [xq_,e8,w0,h1,h2]
   ·simp -implicitDefEqProofs only [xq_,e8,w0,h1]
  | succ k ih=>
   intro i hik Hi G st hz;obtain⟨H',t1,t2,t3,t4⟩:=PZ hCa hCw h hi hw hk ha hv hck (p:=H.next) (q:=H.next+1) (r:=r) (n:=n) (by have:=st.next;omega) (by have:=st.next;omega) (by rw [st.low _ (by omega)];exact gp) (by rw [st.low _ (by omega)];exact gq) G (by rw [st.base,b2,n2];omega) (oh _ _ _ _ _ _) (by have:=Bd.nodes;omega) (i:=i) (mo:=mo) (by omega) (by omega) (by omega) hz;rw [t1];exact ih (i+1) (by omega) H' t2 (st.trans t3) t4
 have g3:H3.get r=.blk 0 98 (bI [zN] n):=aK n2.symm;obtain⟨Hz,r0,r1,r2,r3⟩:=key (min zw.length mo) 0 (by omega) H3 M0.good (Step.new _ (zac _)) (λj hj _=> by
  rw [dK g3,jH,zbv,if_pos hj];rfl)
 have hs:Step H.next H Hz:=(Step.new _ (zac _)).trans ((Step.new _ (za9 _)).trans ⟨r0.base,r0.next,λr hr=> r0.low r (by omega)⟩)
 refine⟨Hz,r,rfl,?_,r2,hs,r3⟩;have e1:=λH=> MV H h hi hc;rw [<-hCc] at e1;have hn:=Bd.nodes;have e2:=Wy (e:=98) (m:=1) (by_:=24) (z:=[zN]) (n:=c.nodes) (H:=H2) rfl rfl (by omega) (by omega) (by decide);have ls:s.cells.length=12:=rfl;have lt:s.cells.take 12=s.cells:=rfl;have l0:c.av[0]?=some (I c.nodes):=rfl;have cc:(AV.agg c.av).cells=c.av:=rfl;have lc:c.av.length=8:=rfl;rw [n2] at e2;simp only [H2,H1] at e2;have hnn:c.nodes.toNat=n:=rfl;rw [hnn] at e2;simp only [c] at e2 l0;have hb1:H.base<=H.next+1:=by omega
 simp -implicitDefEqProofs only [Nat.reduceLT,Nat.reduceAdd,setAt,xq_,hq_,afH,aB hall,ls,lt,e1,l0,e2,hb1];exact r1
theorem P5(H:aj)(h:s.Ok zi zw zk za zv)(hi:aG aj.empty s.init 1 zi.length (zi.map I))(hw:aG aj.empty s.who 1 zw.length (zw.map I))(hk:aG aj.empty s.kinds 1 zk.length (zk.map I))(ha:aG aj.empty s.jA 1 za.length (za.map I))(hv:aG aj.empty s.values 1 zv.length (zv.map I))
  (hc:s.init.aH=true/\s.who.aH=true/\s.kinds.aH=true/\s.jA.aH=true/\s.values.aH=true) {mo:Nat} (hm:mo<=1000):
  ∃ps,ps=mV (s.cfg zi) zw zk za zv mo/\cl 43 [.agg s.cells,I mo] H=some (.vs ps.length 1 (ps.map (vsl 3 Opn.av)),H):=by
 refine⟨_,rfl,?_⟩;obtain⟨Hz,r,hr,e,G,st,hz⟩:=MZ (C:=cl) rfl rfl rfl H.guard (zac _) h hi hw hk ha hv hc hm;have hlen:(mV (s.cfg zi) zw zk za zv mo).length=(s.cfg zi).nodes.toNat:=oh _ _ _ _ _ _;have fz:=UA (sN:=H.next) G (by simp only [yU];omega) hlen hz;exact eu rfl rfl (anV _ _ _ _ e) (by rw [fz,hlen])
end
theorem zF(c:Cfg)(zw zk za zv:List Int):∀i,∀l∈kF c zw zk za zv i,l.length<=24
 | 0,l,h=> by
  rw [List.eq_of_mem_replicate h];decide
 | i+1,l,h=> by
  simp only [kF,iH] at h;split at h
  ·rename_i hl;rcases zbM h with h | rfl
   ·exact zF c zw zk za zv i l h
   ·rw [zaq];simp only [zak,zat];omega
  ·exact zF c zw zk za zv i l h
theorem UC(H:aj)(n m:Int):cl 122 [I n,I m] H=some (B (within n m),H):=by
 refine aW rfl rfl (akj _ _ _ _) ?_ dW;by_cases h:1<=n
 ·simp -implicitDefEqProofs only [xq_,XL,h,within,zaO]
 ·simp -implicitDefEqProofs only [xq_,XL,h,within,zaQ]
theorem alP {c:Cfg}(h1:within c.lines 8=true)(h2:within c.words 4=true):IntKind.wrap .i64 (c.lines*c.words)=c.lines*c.words:=by
 simp only [within,zaj,decide_eq_true_eq] at h1 h2;have:c.lines*c.words<=8*4:=zbV h1.2 h2.2 (by omega) (by omega);have:0<=c.lines*c.words:=zcf (by omega) (by omega);exact wrap_i64 (by omega) (by omega)
theorem YE(H:aj)(c:Cfg):cl 78 [.agg c.av] H=some (B c.ok,H):=by
 refine aW rfl rfl (aoo _ _ _) ?_ dW;have w:=λH n m=> UC H n m;have e1:=λH=> (jr H c.init).lnS;cases h1:within c.nodes 6
 ·simp -implicitDefEqProofs only [Nat.reduceLT,xq_,hq_,Jc,aB,Cfg.av,Cfg.ok,w,h1,zaQ]
 cases h2:within c.lines 8
 ·simp -implicitDefEqProofs only [Nat.reduceLT,xq_,hq_,Jc,aB,Cfg.av,Cfg.ok,w,h1,h2,zaQ,zaO]
 cases h3:within c.words 4
 ·simp -implicitDefEqProofs only [Nat.reduceLT,xq_,hq_,Jc,aB,Cfg.av,Cfg.ok,w,h1,h2,h3,zaQ,zaO]
 cases h4:within c.sets 4
 ·simp -implicitDefEqProofs only [Nat.reduceLT,xq_,hq_,Jc,aB,Cfg.av,Cfg.ok,w,h1,h2,h3,h4,zaQ,zaO]
 cases h5:within c.ways 3
 ·simp -implicitDefEqProofs only [Nat.reduceLT,xq_,hq_,Jc,aB,Cfg.av,Cfg.ok,w,h1,h2,h3,h4,h5,zaQ,zaO]
 cases h6:within c.out 8
 ·simp -implicitDefEqProofs only [Nat.reduceLT,xq_,hq_,Jc,aB,Cfg.av,Cfg.ok,w,h1,h2,h3,h4,h5,h6,zaQ,zaO]
 cases h7:within c.inn 8
 ·simp -implicitDefEqProofs only [Nat.reduceLT,xq_,hq_,Jc,aB,Cfg.av,Cfg.ok,w,h1,h2,h3,h4,h5,h6,h7,zaQ,zaO]
 have hm:=alP h2 h3;simp -implicitDefEqProofs only [Nat.reduceLT,xq_,hq_,Jc,aB,Cfg.av,Cfg.ok,w,h1,h2,h3,h4,h5,h6,h7,e1,gQ,hm,zaO]
theorem abt(H:aj)(c:Cfg):cl 54 [.agg c.av] H=some (I (if c.ok=true then 0 else 1),H):=by
 by_cases h:c.ok=true
 ·rw [if_pos h];exact SC H c h
 rw [if_neg h];refine aW rfl rfl (ajg _ _ _) ?_ dW;have w:=λH n m=> ML H n m;have e1:=λH=> (jr H c.init).lnS;have two:∀b:Bool,b=false∨b=true:=λb=> by cases b <;> simp
 have hs:within c.nodes 6=false∨(within c.nodes 6=true/\within c.lines 8=false)∨(within c.nodes 6=true/\within c.lines 8=true/\within c.words 4=false)∨(within c.nodes 6=true/\within c.lines 8=true/\within c.words 4=true):=by
  rcases two (within c.nodes 6) with a | a <;> rcases two (within c.lines 8) with b | b <;> rcases two (within c.words 4) with d | d <;> simp only [a,b,d,true_and,and_true,or_true,and_self,or_false,zbS,zai]
 have hc:within c.sets 4=false∨(within c.sets 4=true/\within c.ways 3=false)∨(within c.sets 4=true/\within c.ways 3=true):=by
  rcases two (within c.sets 4) with a | a <;> rcases two (within c.ways 3) with b | b <;> simp only [a,b,true_and,and_true,or_true,and_self,or_false,zbS,zai]
 have hr:within c.out 8=false∨(within c.out 8=true/\within c.inn 8=false)∨(within c.out 8=true/\within c.inn 8=true):=by
  rcases two (within c.out 8) with a | a <;> rcases two (within c.inn 8) with b | b <;> simp only [a,b,true_and,and_true,or_true,and_self,or_false,zbS,zai]
 by_cases hall:within c.nodes 6=true/\within c.lines 8=true/\within c.words 4=true/\within c.sets 4=true/\within c.ways 3=true/\within c.out 8=true/\within c.inn 8=true
 ·obtain⟨h1,h2,h3,h4,h5,h6,h7⟩:=hall;have hm:=alP h2 h3;have k:c.lines*c.words < c.init.length:=by
   simp only [Cfg.ok,h1,h2,h3,h4,h5,h6,h7,zaO,decide_eq_true_eq] at h;omega
  simp -implicitDefEqProofs only [Nat.reduceLT,xq_,hq_,aaZ,aB,Cfg.av,w,h1,h2,h3,h4,h5,h6,h7,e1,gQ,hm,k,zae]
 ·rcases hs with h1 | ⟨h1,h2⟩ | ⟨h1,h2,h3⟩ | ⟨h1,h2,h3⟩ <;> rcases hc with h4 | ⟨h4,h5⟩ | ⟨h4,h5⟩ <;> rcases hr with h6 | ⟨h6,h7⟩ | ⟨h6,h7⟩ <;>
   first
   | (simp -implicitDefEqProofs only [Nat.reduceLT,xq_,hq_,aaZ,aB,Cfg.av, *,zae,zal];done)
   | exact absurd ⟨h1,h2,h3,h4,h5,h6,h7⟩ hall
theorem YF {c:Cfg}(h:c.ok=true)(a:Int):decide (c.dh a≠-1)=(decide (0<=a) && decide (a < c.lines*c.words)):=by
 have Bd:=qx h;have hw:=Bd.words;by_cases h0:0<=a
 ·by_cases h1:a < c.lines*c.words
  ·have:0<=a / c.words:=Int.ediv_nonneg h0 (by omega);have:¬(a < 0∨c.lines*c.words<=a):=by omega
   simp only [Cfg.dh,Cfg.jA,this,if_false,h0,h1,decide_true,zb8,decide_eq_true_eq];omega
  ·have:a < 0∨c.lines*c.words<=a:=by omega
   simp [Cfg.dh,Cfg.jA,this,h1]
 ·have:a < 0∨c.lines*c.words<=a:=by omega
  simp [Cfg.dh,Cfg.jA,this,h0]
theorem P6(H:aj)(c:Cfg)(h:c.ok=true)(o:Opn):cl 123 [.agg c.av,.agg o.av] H=some (B (c.right o),H):=by
 refine aW rfl rfl (akk _ _ _ _) ?_ dW;have hl:=YF h o.addr;have Bd:=qx h;have hm:=wrap_i64 (a:=c.lines*c.words) (by have:=Bd.jA;omega) (by have:=Bd.jA;omega);rw [Cfg.right,hl];have b1:c.av[1]?=some (I c.lines):=rfl;have b2:c.av[2]?=some (I c.words):=rfl;by_cases a:1<=o.kind;rotate_left
 ·simp -implicitDefEqProofs only [Nat.reduceLT,xq_,hq_,xY,aB,Opn.av,a,zaQ]
 by_cases b:o.kind<=4;rotate_left
 ·simp -implicitDefEqProofs only [Nat.reduceLT,xq_,hq_,xY,aB,Opn.av,a,b,zaQ,zaO]
 by_cases d:0<=o.addr;rotate_left
 ·simp -implicitDefEqProofs only [Nat.reduceLT,xq_,hq_,xY,aB,Opn.av,a,b,d,zaQ,zaO]
 by_cases e:o.addr < c.lines*c.words;rotate_left
 ·simp -implicitDefEqProofs only [Nat.reduceLT,xq_,hq_,xY,aB,Opn.av,b1,b2,a,b,d,e,gQ,hm,zaQ,zaO]
 by_cases f:o.value=0
 ·simp -implicitDefEqProofs only [Nat.reduceLT,xq_,hq_,xY,aB,Opn.av,b1,b2,a,b,d,e,f,gQ,hm,Bool.true_or]
 by_cases g:o.kind=2
 ·simp -implicitDefEqProofs only [Nat.reduceLT,Int.reduceLE,Int.reduceEq,xq_,hq_,xY,aB,Opn.av,b1,b2,d,e,f,g,gQ,hm,Bool.true_or,zbH]
 by_cases i:o.kind=3
 ·simp -implicitDefEqProofs only [Nat.reduceLT,Int.reduceLE,Int.reduceEq,xq_,hq_,xY,aB,Opn.av,b1,b2,d,e,f,i,gQ,hm,zbH]
 ·simp -implicitDefEqProofs only [Nat.reduceLT,xq_,hq_,xY,aB,Opn.av,b1,b2,a,b,d,e,f,g,i,gQ,hm,zaO,zbH]
def aeH(c:Cfg)(l:List Opn):Bool:=decide (l.length<=24) && l.all c.right
theorem agk(H:aj)(c:Cfg)(h:c.ok=true){x:AV}{ps:List (List Opn)}(hx:SE H x ps)(hn:ps.length < 1000000000)(hl:∀l∈ps,l.length < 1000000000):cl 79 [.agg c.av,x] H=some (B (c.pR ps),H):=by
 refine aW rfl rfl (aop _ _ _ _) ?_ dW;let H0:=H.guard.new (.blk 0 40 c.av);have n0:H0.next=H.next+1:=rfl
 have hx1:=hx.gK (H':=H0) (by rw [n0];omega) λr hr=> by simp only [H0];rw [aQ (by rw [yU];exact hr),ane]
 -- what a memory is that has gone on from there
 have keep:∀{H1:aj},H0.next<=H1.next->(∀r,r < H0.next->H1.get r=H0.get r)->SE H1 x ps/\lda 8 (.ref H.next 0 0) H1=some (.agg c.av,H1)/\ld (.ref H.next 0 0) H1=some (I c.nodes,H1):=by
  intro H1 a b;have g:H1.get H.next=.blk 0 40 c.av:=by rw [b _ (by omega)];exact aK rfl
  exact⟨hx1.gK a b,iK g,by rw [dK g];rfl⟩
 have l0:c.av[0]?=some (I c.nodes):=rfl;obtain⟨apD,x0,_⟩:=hx1;have e1:=x0.lnS;by_cases hc:(ps.length:Int)=c.nodes;rotate_left
 ·simp only [H0] at e1;simp -implicitDefEqProofs only [Nat.reduceLT,xq_,hq_,afT,aB (dH c),e1,l0,hc,Cfg.pR,zb0,zal]
 -- the operations of one program
 have inner:∀(i:Nat) (l:List Opn),ps[i]?=some l->l.length < 1000000000->∀k j,j+k=l.length->(l.take j).all c.right=true->∀H1:aj,H.next<=H1.base->H0.next<=H1.next->(∀r,r < H0.next->H1.get r=H0.get r)->H1.base<=H1.next->∀(u v:AV),aG H0 v 3 l.length (l.flatMap Opn.av)->
   (l.all c.right=false->(um cl [.ref H.next 0 0,x,I ps.length,I i,v,I l.length,I j] H1).map Prod.fst=some (B false))/\
   (l.all c.right=true->∃H2,H.next<=H2.base/\H0.next<=H2.next/\(∀r,r < H0.next->H2.get r=H0.get r)/\H2.base<=H2.next/\um cl [.ref H.next 0 0,x,I ps.length,I i,v,I l.length,I j] H1=zq cl [.ref H.next 0 0,x,I ps.length,I (i+1:Nat)] H2):=by
  intro i l hi hll k;have hip:i < ps.length:=(zaf.1 hi).1
  induction k with
  | zero=>
   intro j hj hall H1 b0 b1 b2 b3 u v hv;have h1:¬(j:Int) < l.length:=by omega
   have hal:l.all c.right=true:=by rw [zas (by omega)] at hall;exact hall
   have h6:(i:Int)+1=((i+1:Nat):Int):=by omega
   have h7:=wrap_i64 (a:=((i+1:Nat):Int)) (by omega) (by omega);refine⟨λh=> (by rw [hal] at h;cases h),λ_=> ⟨H1,b0,b1,b2,b3,?_⟩⟩;rw [PI];simp -implicitDefEqProofs only [Nat.reduceAdd,setAt,xq_,hq_,h1,aZ,h6,h7]
  | succ k ih=>
   intro j hj hall H1 b0 b1 b2 b3 u v hv;have h1:(j:Int) < l.length:=by omega
   have hv1:=hv.gK (H':=H1) b1 λr _ hr=> b2 r hr;have h3:=hv1.ix (k:=.i64) (i:=(j:Int)) (by omega) h1;rw [zar] at h3;obtain⟨o,ho⟩:∃o,l[j]?=some o:=⟨_,zab (by omega)⟩
   have h4:=iW dw hv1 ho;obtain⟨_,k2,_⟩:=keep b1 b2;have h5:=λH=> P6 H c h o;have lt0:H.next < H1.next:=by omega
   have h6:(j:Int)+1=((j+1:Nat):Int):=by omega
   have h7:=wrap_i64 (a:=((j+1:Nat):Int)) (by omega) (by omega);have hz:H1.base<=H1.next:=b3
   cases hr:c.right o with
   | false=>
    have hal:l.all c.right=false:=by
     rw [List.all_eq_false];exact⟨o,zau ho,by simp [hr]⟩
    refine⟨λ_=> ?_,λh=> (by rw [hal] at h;cases h)⟩;rw [PI];simp -implicitDefEqProofs only [Nat.reduceAdd,setAt,xq_,hq_,h1,h3,h4,k2,h5,lt0,hr,hz,zal]
   | true=>
    have aoR:(l.take (j+1)).all c.right=true:=by
     rw [zb6,ho,zbb,hall];simp [hr]
    have key:=ih (j+1) (by omega) aoR (H1.new (.blk 0 86 o.av)) b0 (zbC b1) (λr hr=> by rw [aQ (by omega)];exact b2 r hr) (zbC b3) u v hv;have step:um cl [.ref H.next 0 0,x,I ps.length,I i,v,I l.length,I j] H1=um cl [.ref H.next 0 0,x,I ps.length,I i,v,I l.length,I (j+1:Nat)] (H1.new (.blk 0 86 o.av)):=by
     rw [PI];simp -implicitDefEqProofs only [Nat.reduceAdd,setAt,xq_,hq_,h1,h3,h4,k2,h5,lt0,hr,hz,zae,aZ,h6,h7]
    rw [step];exact key
 have outer:∀k i,i+k=ps.length->(ps.take i).all (aeH c)=true->∀H1:aj,H.next<=H1.base->H0.next<=H1.next->(∀r,r < H0.next->H1.get r=H0.get r)->H1.base<=H1.next->(zq cl [.ref H.next 0 0,x,I ps.length,I i] H1).map Prod.fst=some (B (ps.all (aeH c))):=by
  intro k
  induction k with
  | zero=>
   intro i hi hall H1 b0 b1 b2 b3;have h1:¬(i:Int) < ps.length:=by omega
   rw [zas (by omega)] at hall;rw [hall,Jd];simp -implicitDefEqProofs only [xq_,h1]
  | succ k ih=>
   intro i hi hall H1 b0 b1 b2 b3;have h1:(i:Int) < ps.length:=by omega
   obtain⟨⟨cells,x1,x2⟩,_,_⟩:=keep b1 b2;have hcl:cells.length=ps.length:=by have:=x1.1;omega
   have h3:=x1.ix (k:=.i64) (i:=(i:Int)) (by omega) h1;rw [zar] at h3;obtain⟨v,hv⟩:∃v,cells[i]?=some v:=⟨_,zab (by omega)⟩
   obtain⟨l,hpl⟩:∃l,ps[i]?=some l:=⟨_,zab (by omega)⟩
   have h4:=x1.ld (i:=i) (by omega);rw [hv] at h4;obtain⟨y1,_⟩:=x2 i v l hv hpl;have h5:=y1.lnS;have hll:=hl l (zau hpl)
   -- the same slice,at first
   have y0:aG H0 v 3 l.length (l.flatMap Opn.av):=by
    obtain⟨⟨cells',z1,z2⟩,_,_⟩:=keep (H1:=H0) (zac _) λ_ _=> rfl;have hv':cells'[i]?=some v:=by
     have:=(z1.gK (H':=H1) b1 λr _ hr=> b2 r hr).ld (i:=i) (by omega);rw [h4] at this;cases hc':cells'[i]? with
     | none=> rw [hc'] at this;cases this
     | some w=> rw [hc'] at this;simp only [zah,zaa,zad,and_true] at this;rw [this]
    exact(z2 i v l hv' hpl).1
   by_cases hlen:l.length<=24
   ·have h24:¬(24:Int) < l.length:=by omega
    have:=inner i l hpl hll l.length 0 (by omega) (by simp) H1 b0 b1 b2 b3 v v y0;cases hr:l.all c.right with
    | false=>
     have hal:ps.all (aeH c)=false:=by
      rw [List.all_eq_false];exact⟨l,zau hpl,by simp [aeH,hr]⟩
     have t:=this.1 hr;rw [hal,Jd];simp -implicitDefEqProofs only [xq_,h1,h3,h4,h5,h24];exact t
    | true=>
     obtain⟨H2,c0,c1,c2,c3,t⟩:=this.2 hr;have:=ih (i+1) (by omega) (by rw [zb6,hpl,zbb,hall];simp [aeH,hlen,hr]) H2 c0 c1 c2 c3;rw [Jd];simp -implicitDefEqProofs only [xq_,h1,h3,h4,h5,h24];have t':um cl [.ref H.next 0 0,x,I ps.length,I i,v,I l.length,I 0] H1=zq cl [.ref H.next 0 0,x,I ps.length,I (i+1:Nat)] H2:=t;rw [t'];exact this
   ·have h24:(24:Int) < l.length:=by omega
    have hal:ps.all (aeH c)=false:=by
     rw [List.all_eq_false];exact⟨l,zau hpl,by simp [aeH,hlen]⟩
    rw [hal,Jd];simp -implicitDefEqProofs only [xq_,h1,h3,h4,h5,h24]
 have fin:=outer ps.length 0 (by omega) (by simp) H0 (zac _) (zac _) (λ_ _=> rfl) (by rw [n0];show H.next<=_;omega);have eo:c.pR ps=ps.all (aeH c):=by simp only [Cfg.pR,hc,decide_true,Bool.and_true];rfl
 rw [eo];simp only [H0] at e1 fin;simp -implicitDefEqProofs only [Nat.reduceLT,xq_,hq_,afT,aB (dH c),e1,l0,hc];rw [<-hc];exact fin
theorem UD {β:Type}{w:Option Nat}{H H':aj}{k:Option β}(h:∀r,w=some r->H'.get r=H.get r):ck w H H' k=k:=if_pos h
theorem zG {H1:aj}{n d m k:Nat}{x:AV}{cells:List AV}(c:Own n H1 x m cells)(hm:0 < m)(hl:cells.length=k*m)(hz:∀y∈cells,aV H1 n d y=some y)(hk:k≠0):aV H1 n (d+1) x=some (.vs k m cells):=by
 rcases c with⟨rfl,rfl⟩ | ⟨r,g,off,n',cap,ex,ty,all,rfl,k2,k3,k4,k5,k6,k7,rfl⟩
 ·simp only [zat] at hl;rcases Nat.mul_eq_zero.1 hl.symm with h | h <;> omega
 ·have hcm:n'*m<=cap*m:=zaD _ k4;rw [zao,zaK,zbg (by omega)] at hl;have:n'=k:=zbI hm hl;subst this;exact gZ k2 (cells:=(all.drop off).take (n'*m)) (by simp only [aX,k5];rw [if_pos ⟨trivial,by omega⟩]) (dZ _ hz)
theorem YG {c:Cfg}{line:Int}(h0:0<=line)(h1:line < c.lines){i:Nat}(hi:i < c.words.toNat):(c.first line)[i]?=some (c.init.getD ((line*c.words).toNat+i) 0):=by
 unfold Cfg.first
 rw [if_neg (by omega),zaB,zbm hi];rfl
theorem Nh {c:Cfg}{line:Int}(h0:0<=line)(h1:line < c.lines):(c.first line).length=c.words.toNat:=by
 unfold Cfg.first
 rw [if_neg (by omega)];simp
theorem UE(H:aj)(c:Cfg)(h:c.ok=true)(line:Int)(h0:0<=line)(h1:line < c.lines):cl 171 [.agg c.av,I line] H=some (dat (c.first line),H):=by
 have Bd:=qx h;have hw:=Bd.words;have hlw:0<=line*c.words:=zcf h0 (by omega);have aqe:line*c.words<=8*4:=zbV (by have:=Bd.lines;omega) hw.2 (by omega) (by omega);have w:=wrap_i64 (a:=line*c.words) (by omega) (by omega);let H0:=H.guard.new (.blk 0 40 c.av);have g0:H0.get H.next=.blk 0 40 c.av:=aK rfl
 have key:∀k i,i+k=c.words.toNat->∀(H1:aj) (x:AV),H.next<=H1.next->H1.base=H.next->H1.get H.next=.blk 0 40 c.av->Own (H.next+1) H1 x 1 (((c.first line).take i).map I)->H.next+1<=H1.next->
   ∃H2 y,BO cl [I line,.ref H.next 0 0,x,I i] H1=some (y,H2)/\Own (H.next+1) H2 y 1 ((c.first line).map I):=by
  intro k
  induction k with
  | zero=>
   intro i hi H1 x n1 b1 g1 O n2;have l2:ld (.ref H.next 0 2) H1=some (I c.words,H1):=by rw [dK g1];rfl
   have hn:¬(i:Int) < c.words:=by omega
   rw [zas (by rw [Nh h0 h1];omega)] at O;refine⟨H1,x,?_,O⟩;rw [RX];simp -implicitDefEqProofs only [xq_,l2,hn]
  | succ k ih=>
   intro i hi H1 x n1 b1 g1 O n2;have l2:ld (.ref H.next 0 2) H1=some (I c.words,H1):=by rw [dK g1];rfl
   have l7:ld (.ref H.next 0 7) H1=some (dat c.init,H1):=by rw [dK g1];rfl
   have hn:(i:Int) < c.words:=by omega
   have e1:=(jr H1 c.init).lnS;have w2:=wrap_i64 (a:=line*c.words+i) (by omega) (by omega);have h6:(i:Int)+1=((i+1:Nat):Int):=by omega
   have h7:=wrap_i64 (a:=((i+1:Nat):Int)) (by omega) (by omega);have hg:=YG (c:=c) (line:=line) h0 h1 (i:=i) (by omega);have tail:∀v:Int,v=c.init.getD ((line*c.words).toNat+i) 0->∃H2 y,BP cl (I line) (.ref H.next 0 0) x (I i) (I v) H1=some (y,H2)/\Own (H.next+1) H2 y 1 ((c.first line).map I):=by
    intro v hv;have eb:bs 22 1 [(0,I v)] H1=some (.sl H1.next 0 0 1 1 1 true,H1.new (.blk 0 3 [I v])):=(Dx (by decide)).trans (jm rfl rfl rfl);obtain⟨x',H2,a1,a2,a3⟩:=(O.new (.blk 0 3 [I v])).step (n:=i) (k:=1) (e:=3) (by_:=8) (y:=.sl H1.next 0 0 1 1 1 true) (new:=[I v]) (by rw [nNew];omega) (by rw [bNew,b1];omega) (by decide) (by rw [zaE,zao,Nh h0 h1];omega) (jv rfl) rfl (by unfold most;omega) (by unfold most;omega);have O2:Own (H.next+1) H2 x' 1 (((c.first line).take (i+1)).map I):=by
     rw [zb6,hg,zbk];rw [hv] at a2;exact a2
    obtain⟨H3,y,r1,r2⟩:=ih (i+1) (by omega) H2 x' (by have:=a3.next;rw [nNew] at this;omega) (by rw [a3.base,bNew,b1]) (by rw [a3.low _ (by omega),aQ (by omega),g1]) O2 (by have:=a3.next;rw [nNew] at this;omega);refine⟨H3,y,?_,r2⟩;simp -implicitDefEqProofs only [xq_,BP,eb,a1,aZ,h6,h7,r1]
   rw [RX];by_cases hc:line*c.words+i < c.init.length
   ·have e2:=(jr H1 c.init).ix (k:=.i64) (i:=line*c.words+i) (by omega) hc;have e3:=(jr H1 c.init).ld (i:=(line*c.words+i).toNat) (by omega);have e4:(c.init.map I)[(line*c.words+i).toNat]?=some (I (c.init.getD ((line*c.words).toNat+i) 0)):=by
     have:(line*c.words+i).toNat=(line*c.words).toNat+i:=by omega
     rw [this,zaB,zab (by omega)];simp [List.getD,zab (show(line*c.words).toNat+i < c.init.length by omega)]
    rw [e4] at e3;obtain⟨H2,y,r1,r2⟩:=tail _ rfl;refine⟨H2,y,?_,r2⟩;simp -implicitDefEqProofs only [xq_,l2,hn,gQ,w,aZ,w2,l7,e1,hc,e2,e3,r1]
   ·obtain⟨H2,y,r1,r2⟩:=tail 0 (by
     have:c.init.length<=(line*c.words).toNat+i:=by omega
     simp [List.getD,zaG this])
    refine⟨H2,y,?_,r2⟩;simp -implicitDefEqProofs only [xq_,l2,hn,gQ,w,aZ,w2,l7,e1,hc,r1]
 obtain⟨H2,y,r1,r2⟩:=key c.words.toNat 0 (by omega) H0 zN (by show H.next<=H.next+1;omega) rfl g0 (.inl ⟨rfl,by simp⟩) (zac _);refine eu rfl rfl (ak0 _ _ _ _ (r:=(y,H2)) ?_) ?_
 ·have n0:¬line < 0:=by omega
  have n1:¬c.lines<=line:=by omega
  have l1:c.av[1]?=some (I c.lines):=rfl;simp -implicitDefEqProofs only [Nat.reduceLT,xq_,hq_,aeh,aB (dH c),n0,n1,l1];exact r1
 ·rw [uo (Jv h h0 h1)];have r3:Own H.next H2 y 1 ((c.first line).map I):=by
   rcases r2 with r2 | ⟨r,g,off,n,cap,ex,ty,all,a0,a1,a2⟩
   ·exact .inl r2
   ·exact .inr ⟨r,g,off,n,cap,ex,ty,all,a0,by omega,a2⟩
  exact zG r3 (by decide) (by simp) (λy hy=> oZ _ y hy _ _) (λe=> Jv h h0 h1 (zan e))
theorem YH(H:aj)(sets ways:Int)(h:1<=sets)(h':1<=ways):∃H' q,cl 124 [I sets,I ways] H=some (.ref q 0 0,H')/\Made H H' (upd nil0 q (yX ⟨[],sets,ways,0⟩ [])):=by
 refine⟨_,H.next,aN rfl rfl (akl _ _ _ _ (r:=(_,H.new (.blk 0 264 [I sets,I ways,zI,zN]))) ?_),jI rfl rfl λi c x hc hx=> ?_⟩
 ·have e:max sets (1:Int)=sets:=by omega
  have e':max ways (1:Int)=ways:=by omega
  simp -implicitDefEqProofs only [Nat.reduceLT,Nat.reduceAdd,Nat.reduceLeDiff,setAt,xq_,hq_,adF,Iq,e,e',ah6,gV,dM,acR,aB]
 ·match i with
  | 0=> left;cases hc;cases hx;rfl
  | 1=> left;cases hc;cases hx;rfl
  | 2=> left;cases hc;cases hx;rfl
  | 3=> right;cases hc;cases hx;exact⟨rfl,6,rfl⟩
  | i+4=> cases hc
theorem agl(H:aj)(c:Cfg)(h:c.ok=true):∃H' f,cl 80 [.agg c.av] H=some (.ref f 0 0,H')/\Made H H' (upd nil0 f (Uk c (List.replicate (4*c.nodes.toNat) []))):=by
 have Bd:=qx h;have hn:=Bd.nodes;let H1:=H.new (.blk 0 40 c.av);let H2:=H1.new (.blk 0 322 (bI [zN,zN,zN,zN] c.nodes.toNat));let S:AV:=.sl (H.next+1) 0 0 4 c.nodes.toNat c.nodes.toNat true;let H3:=H2.new (.blk 0 212 (c.av++[S]));have e1:=Wy (e:=322) (m:=4) (by_:=96) (z:=[zN,zN,zN,zN]) (n:=c.nodes) (H:=H1) rfl rfl (by omega) (by omega) (by decide);have l0:c.av[0]?=some (I c.nodes):=rfl;have zl:∀n,(bI [zN,zN,zN,zN] n).length=n*4/\∀(j:Nat) x,(bI [zN,zN,zN,zN] n)[j]?=some x->x=zN:=by
  intro n
  induction n with
  | zero=> exact⟨rfl,λj x hx=> by simp [bI] at hx⟩
  | succ n ih=>
   refine⟨by rw [bI,zaq,ih.1];simp;omega,λj x hx=> ?_⟩;rw [bI] at hx;have:=zau hx;rcases za2.1 this with hm | hm
   ·simpa using hm
   ·obtain⟨k,hk,hk2⟩:=List.getElem_of_mem hm;exact ih.2 k x (by rw [zab hk,hk2])
 refine⟨H3,H.next+2,aN rfl rfl (aor _ _ _ (r:=(_,H3)) ?_),⟨by show H.next<=H.next+3;omega,rfl,λr hr=> ?_,by show H.next<=H.next+3;omega,λr=> if r=H.next+2 then some (r,0,0,0) else if r=H.next+1 then some (H.next+2,9,0,0) else none,λq cs hq=> ?_⟩⟩
 ·have e:bd 212 [(0,.agg c.av),(1,S)]=some (.agg (c.av++[S])):=by
   simp -implicitDefEqProofs only [xq_,ah4,gV,dM,acP,Cfg.av,dF];rfl
  have ea:(c.av++[S]).all AV.aH=true:=by rw [zbb,dH];rfl
  have e0:=iK (H:=H1) (r:=H.next) (c:=c) (aK rfl);have s1:H1.next=H.next+1:=rfl
  simp only [s1] at e1;simp only [H1] at e1 e0;simp -implicitDefEqProofs only [Nat.reduceLT,xq_,hq_,aju,aB (dH c),l0,e1,e,aB ea,S];rfl
 ·simp only [H3,H2,H1];rw [aQ (by simp only [nNew];omega),aQ (by simp only [nNew];omega),aQ hr]
 ·unfold upd at hq;split at hq
  ·rename_i e;subst e;cases hq;refine⟨by simp,by omega,by show _ < H.next+3;omega,sJ (ty:=212) (xs:=c.av++[S]) (aK rfl) (by decide),212,c.av++[S],aK rfl,by simp [Uk,Cfg.av],by rw [zbb,dH];rfl,λi cc x hc hx=> ?_⟩;rcases zaR i 8 with hi | hi
   ·rw [Uk,zaJ (by simp [Cfg.av];omega),zaB] at hc;rw [zaJ (by simp [Cfg.av];omega)] at hx;rw [hx] at hc;cases hc;exact rfl
   ·have hi8:i=8:=by
     have:=(zaf.1 hx).1;simp [Cfg.av] at this;omega
    subst hi8;cases hc;cases hx;refine⟨bI [zN,zN,zN,zN] c.nodes.toNat,.inr ⟨H.next+1,0,0,c.nodes.toNat,c.nodes.toNat,true,322,_,rfl,by simp,by omega,by show _ < H.next+3;omega,zac _,by simp only [H3];rw [aQ (by show _ < H.next+2;omega)];exact aK rfl,by rw [(zl _).1];omega,uQ rfl _,?_⟩,by rw [(zl _).1,zb1];omega,λj cells y hj hy=> ?_⟩
    ·rw [zaP,zas (by rw [(zl _).1];omega)]
    ·rw [zbv] at hj;split at hj
     ·cases hj;exact .inl ⟨(zl _).2 _ _ hy,rfl⟩
     ·cases hj
  ·cases hq
def iM(c:Cfg)(n:Nat):List Row:=(List.range n).map λ(i:Nat)=> (⟨0,-1,c.first (i:Int)⟩:Row)
theorem P7(c:Cfg)(n:Nat):iM c (n+1)=iM c n++[⟨0,-1,c.first n⟩]:=by
 simp [iM,zcj]
theorem YI(H:aj)(hb:H.base<=H.next)(c:Cfg)(h:c.ok=true)(me:Int):∃H' q,cl 125 [.agg c.av,I me] H=some (.ref q 0 0,H')/\Made H H' (upd nil0 q (mP c me ((eF.new c).rows.flatMap Row.av) ⟨[],[]⟩)):=by
 have Bd:=qx h;have hl:=Bd.lines;let H1:=H.new (.blk 0 40 c.av);let xs:List AV:=c.av++[I me,zN,zN,zN]
 let H2:=H1.new (.blk 0 271 xs);let f:=H.next+1
 have ax:xs.all AV.aH=true:=by simp only [xs,zbb,dH];rfl
 have M0:Made H1 H2 (upd nil0 f (mP c me [] ⟨[],[]⟩)):=jI ax (by simp [xs,mP]) λi cc x hc hx=> by
  rcases zaR i 8 with hi | hi
  ·left;rw [mP,zaJ (by simp [Cfg.av];omega),zaB] at hc;rw [zaJ (by simp [Cfg.av];omega)] at hx;rw [hx] at hc;exact(za3 hc).symm
  ·obtain⟨j,rfl⟩:∃j,i=8+j:=⟨i - 8,by omega⟩
   match j with
   | 0=> left;cases hc;cases hx;rfl
   | 1=> right;cases hc;cases hx;exact⟨rfl,3,rfl⟩
   | 2=> right;cases hc;cases hx;exact⟨rfl,2,rfl⟩
   | 3=> right;cases hc;cases hx;exact⟨rfl,3,rfl⟩
   | j+4=> exfalso;have:=(zaf.1 hx).1;simp [xs,Cfg.av] at this;omega
 have key:∀k i,i+k=c.lines.toNat->∀Hi,Made H1 Hi (upd nil0 f (mP c me ((iM c i).flatMap Row.av) ⟨[],[]⟩))->
   ∃H',Bz cl [.ref H.next 0 0,.ref f 0 0,I i] Hi=some (.ref f 0 0,H')/\Made H1 H' (upd nil0 f (mP c me ((iM c c.lines.toNat).flatMap Row.av) ⟨[],[]⟩)):=by
  intro k
  induction k with
  | zero=>
   intro i hi Hi M;have h1:¬(i:Int) < c.lines:=by omega
   have g:Hi.get H.next=.blk 0 40 c.av:=by rw [M.same _ (by show H.next < H.next+1;omega)];exact aK rfl
   have l1:ld (.ref H.next 0 1) Hi=some (I c.lines,Hi):=by rw [dK g];rfl
   rw [Rw];refine⟨Hi,?_,by rw [show c.lines.toNat=i by omega];exact M⟩;simp -implicitDefEqProofs only [Int.reduceNeg,xq_,l1,h1]
  | succ k ih=>
   intro i hi Hi M;have h1:(i:Int) < c.lines:=by omega
   have h6:(i:Int)+1=((i+1:Nat):Int):=by omega
   have h7:=wrap_i64 (a:=((i+1:Nat):Int)) (by omega) (by omega);have n1:H1.next=H.next+1:=rfl
   have g:Hi.get H.next=.blk 0 40 c.av:=by rw [M.same _ (by omega)];exact aK rfl
   have l1:ld (.ref H.next 0 1) Hi=some (I c.lines,Hi):=by rw [dK g];rfl
   have l8:=iK g;obtain⟨x,hx,cx⟩:=M.good.seq upd_same (i:=9) rfl;have e1:=UE Hi.guard c h i (by omega) h1;let r:Row:=⟨0,-1,c.first i⟩
   have hlen:((iM c i).flatMap Row.av).length=i*3:=by rw [bf yR];simp [iM]
   have eb:=jm (e:=272) (m:=3) (z:=[zI,zI,zN]) (v:=.agg r.av) (H:=Hi) rfl rfl (Iz r);simp only [dF] at eb;obtain⟨x',He,Hf,t1,t2,t3,t4⟩:=(M.good.new (.blk 0 272 r.av)).append (e:=272) (by_:=40) (by rw [bNew,M.base,n1];simp only [H1,bNew];omega) upd_same (i:=9) rfl (by decide) hlen (cx.new _) (jv (ex:=true) (n:=1) (m:=3) (l:=r.av) rfl) (Iz r) (by unfold most;omega) (by unfold most;omega);have Mf:Made H1 Hf (upd nil0 f (mP c me ((iM c (i+1)).flatMap Row.av) ⟨[],[]⟩)):=by
    refine((M.new _).step t3 t4).as ?_;rw [mG,P7,zbB]
    congr 1
   obtain⟨H',r1,r2⟩:=ih (i+1) (by omega) Hf Mf;refine⟨H',?_,r2⟩;rw [Rw];have er:bd 272 [(0,I 0),(1,I (-1)),(2,dat (c.first i))]=some (.agg r.av):=by
    simp -implicitDefEqProofs only [Int.reduceNeg,xq_,ah8,gV,dM,acT,DF];rfl
   simp -implicitDefEqProofs only [Int.reduceNeg,Nat.reduceLeDiff,xq_,hq_,l1,h1,hx,l8,e1,er,ahH,zbd,eb,t1,t2,aZ,h6,h7,r1]
 obtain⟨H',r1,r2⟩:=key c.lines.toNat 0 (by omega) H2 M0;refine⟨H',f,aN rfl rfl (akm _ _ _ _ (r:=(_,H')) ?_),r2.vW⟩;have e:bd 271 [(0,.agg c.av),(1,I me)]=some (.agg xs):=by
  simp -implicitDefEqProofs only [xq_,ah7,gV,dM,acS,Cfg.av,dF];rfl
 have e0:=iK (H:=H1) (r:=H.next) (c:=c) (aK rfl);simp only [H1] at e0;simp -implicitDefEqProofs only [Nat.reduceLT,xq_,hq_,adH,aB (dH c),e0,e,aB ax];exact r1
theorem agm {H:aj}{v:AV}{l:List Opn}(hv:aG H v 3 l.length (l.flatMap Opn.av))(hl:l.length < 1000000):
  ∃y H',app 86 3 24 zN v H=some (y,H')/\Own H.next H' y 3 (l.flatMap Opn.av)/\Step H.next H H':=by
 have O:Own H.next H zN 3 []:=.inl ⟨rfl,rfl⟩
 have hz:most=most:=rfl;obtain⟨c1,c2⟩:=hv.sK;by_cases h0:l=[]
 ·subst h0;refine⟨zN,H,?_,.inl ⟨rfl,rfl⟩,Step.refl _ _⟩;simp only [app,c1,c2,bU];rfl
 ·have hn:l.length≠0:=λe=> h0 (zan e);refine⟨_,_,IC hv (xB lC l) hn (by unfold most;omega) (by unfold most;omega),.inr ⟨H.next,0,0,l.length,l.length,false,86+eH,l.flatMap Opn.av,rfl,zac _,by rw [nNew];omega,zac _,aK rfl,by rw [bf dw];omega,xB lC l,?_⟩,Step.new _ (zac _)⟩;rw [zaP,zas (by rw [bf dw];exact zac _)]
theorem abu {H H1:aj}{ty:TypeId}{xs:List AV}{cs:List Cell}{i0 m0:Nat}{l0:List AV}{y:AV}(s:Step H.next H H1)(hc:xs.all AV.aH=true)(hl:xs.length=cs.length)(O:Own H.next H1 y m0 l0)
  (h:∀(i:Nat) (c:Cell) (x:AV),cs[i]?=some c->xs[i]?=some x->c=.av x∨(x=zN/\∃m,c=.seq m [])∨(i=i0/\x=y/\c=.seq m0 l0)) (ht:ty < eH:=by decide):
  Made H (H1.new (.blk 0 ty xs)) (upd nil0 H1.next cs):=by
 have n1:=s.next
 refine⟨by rw [nNew];omega,s.base,λr hr=> by rw [aQ (by omega),s.low r hr],by rw [nNew];omega,λr=> if r=H1.next then some (r,0,0,0) else if nameOf y=some r then some (H1.next,i0+1,0,0) else none,λq cs' hq=> ?_⟩;unfold upd at hq;split at hq
 ·rename_i e;subst e;cases hq;refine⟨by simp,n1,by rw [nNew];omega,sJ (xs:=xs) (aK rfl) ht,ty,xs,aK rfl,hl,hc,λi c x hci hx=> ?_⟩;rcases h i c x hci hx with rfl | ⟨rfl,m,rfl⟩ | ⟨rfl,rfl,rfl⟩
  ·exact rfl
  ·exact .inl ⟨rfl,rfl⟩
  ·rcases O with O | ⟨r,g,off,n,cap,ex,ty',all,rfl,k2,k3,k4,k5,k6⟩
   ·exact .inl O
   ·exact .inr ⟨r,g,off,n,cap,ex,ty',all,rfl,by simp only [nameOf];rw [if_neg (by omega),if_pos trivial],k2,by rw [nNew];omega,k4,by rw [aQ k3];exact k5,k6⟩
 ·cases hq
theorem abv(H:aj)(c:Cfg)(h:c.ok=true)(me:Int)(l:List Opn)(hl:l.length < 1000000){x:AV}(hx:aG H x 3 l.length (l.flatMap Opn.av)):
  ∃H' a g',cl 81 [.agg c.av,I me,x] H=some (.ref (a 0) 0 0,H')/\Made H H' g'/\lF g' a c me (.new c l):=by
 have Bd:=qx h;let H1:=H.new (.blk 0 40 c.av);obtain⟨H2',q1,e1,M1⟩:=YH H1.guard c.sets c.ways Bd.sets.1 Bd.ways.1;obtain⟨H2,e1,M1⟩:=drawn e1 M1;obtain⟨H3',q2,e2,M2⟩:=YI H2.guard (zac _) c h me;obtain⟨H3,e2,M2⟩:=drawn e2 M2;have hx3:aG H3 x 3 l.length (l.flatMap Opn.av):=((hx.new (.blk 0 40 c.av)).gK M1.next λr _ hr=> M1.same r hr).gK M2.next λr _ hr=> M2.same r hr
 obtain⟨y,H4,e3,O,s4⟩:=agm hx3 hl;let a:=six H4.next q1 q2 0 0 0
 let xs:List AV:=c.av++[I me,.ref q1 0 0,.ref q2 0 0,y,B false,zN,B false,zI,zI,zI,zI,zI,zI,zN,zI,zI,I 0]
 have hy:One y:=by
  rcases O with⟨rfl,_⟩ | ⟨r,g,off,n,cap,ex,ty',all,rfl,_⟩
  ·exact mJ
  ·exact qj
 have ax:xs.all AV.aH=true:=by simp only [xs,zbb,dH,List.all_cons,hy.2];rfl
 have M3:Made H3 (H4.new (.blk 0 219 xs)) (upd nil0 H4.next (Ah a c me (.new c l) [zI,zI,zI,zI,zI,zI,zN,zI,zI])):=by
  refine abu (i0:=11) (m0:=3) (l0:=l.flatMap Opn.av) (y:=y) s4 ax (by simp [xs,Ah]) O λi cc x hc hx=> ?_;rcases zaR i 8 with hi | hi
  ·left;rw [Ah,List.append_assoc,List.append_assoc,zaJ (by simp [Cfg.av];omega),zaB] at hc;rw [zaJ (by simp [Cfg.av];omega)] at hx;rw [hx] at hc;exact(za3 hc).symm
  ·obtain⟨j,rfl⟩:∃j,i=8+j:=⟨i - 8,by omega⟩
   match j with
   | 0 | 1 | 2 | 4 | 6 | 7 | 8 | 9 | 10 | 11 | 12 | 13 | 14 | 15 | 16=> left;cases hc;cases hx;rfl
   | 3=> right;right;cases hc;cases hx;exact⟨rfl,rfl,rfl⟩
   | 5=> right;left;cases hc;cases hx;exact⟨rfl,1,rfl⟩
   | j+17=> exfalso;have:=(zaf.1 hx).1;simp [xs,Cfg.av] at this;omega
 have g1:H1.get H.next=.blk 0 40 c.av:=aK rfl
 have l1:H.next < H1.next:=by simp only [H1,nNew];omega
 have l2:H.next < H2.next:=zaw l1 M1.next
 have g2:H2.get H.next=.blk 0 40 c.av:=by rw [M1.same _ l1,g1]
 have g3:H3.get H.next=.blk 0 40 c.av:=by rw [M2.same _ l2,g2]
 have l3:H.next < H3.next:=zaw l2 M2.next
 have g4:H4.get H.next=H3.get H.next:=s4.low _ l3
 have b1:=iK g1;have b2:=iK g2;have ec:∀{β:Type} (k:Option β),ck (aT (.ref H.next 0 0)) H3 H4 k=k:=λk=> UD λr hr=> by cases hr;exact g4
 have G12:=M1.good.merge M2;refine⟨_,a,_,aN rfl rfl (aot _ _ _ _ _ (r:=(_,H4.new (.blk 0 219 xs))) ?_),((M1.trans M2).trans M3).vW,?_⟩
 ·have e:bd 219 [(0,.agg c.av),(1,I me),(2,.ref q1 0 0),(3,.ref q2 0 0),(4,y)]=some (.agg xs):=by
   simp -implicitDefEqProofs only [xq_,ah5,gV,dM,acQ,Cfg.av,dF,hy.1];rfl
  have l3:c.av[3]?=some (I c.sets):=rfl;have l4:c.av[4]?=some (I c.ways):=rfl;simp only [H1] at e1 b1;simp -implicitDefEqProofs only [Nat.reduceLT,xq_,hq_,ajv,aB (dH c),b1,l3,l4,e1,b2,e2,e3,e,aB ax,ec];rfl
 ·have z:wI (ang (cup H3.next (cup H2.next (upd nil0 q1 (yX ⟨[],c.sets,c.ways,0⟩ [])) (upd nil0 q2 (mP c me ((eF.new c).rows.flatMap Row.av) ⟨[],[]⟩))) (upd nil0 H4.next (Ah a c me (.new c l) [zI,zI,zI,zI,zI,zI,zN,zI,zI])))) (eF.new c).rows ((eF.new c).rows.flatMap Row.av):=wI.of λr _=> afm r;exact⟨⟨[zI,zI,zI,zI,zI,zI,zN,zI,zI],⟨zN,.inl (by simp [dD.new,bF.zero,dat,dQ]),by simp [dD.new,bF.zero,bF.avx]⟩,jT M3.good upd_same (zac _)⟩,⟨[],.nil,iY G12 (iY M1.good upd_same rfl) rfl⟩,⟨_,z,iY G12 (jT M2.good upd_same (zac _)) rfl⟩⟩
theorem lF.apE {g:Store}{a:Nat->Nat}{c:Cfg}{me:Int}{n:dD}(h:lF g a c me n){s:Nat}(hs:s < 3):∃l,g (a s)=some l:=by
 obtain⟨⟨_,_,h0⟩,⟨_,_,h1⟩,⟨_,_,h2⟩⟩:=h
 match s,hs with
 | 0,_=> exact⟨_,h0⟩
 | 1,_=> exact⟨_,h1⟩
 | 2,_=> exact⟨_,h2⟩
theorem lF.ext {g g':Store}{a:Nat->Nat}{c:Cfg}{me:Int}{n:dD}(h:lF g a c me n)(hd:∀q cs,g q=some cs->¬Uj cs->g' q=some cs)(hg:∀s,s < 3->g' (a s)=g (a s)):lF g' a c me n:=by
 obtain⟨⟨d,⟨x,d1,d2⟩,h0⟩,⟨cells,k,h1⟩,⟨rows,r,h2⟩⟩:=h;exact⟨⟨d,⟨x,d1.sub hd,d2⟩,by rw [hg 0 (by omega),h0]⟩,⟨cells,k.mono λe cs _ ⟨x,e1,e2⟩=> ⟨x,e1.sub hd,e2⟩,by rw [hg 1 (by omega),h1]⟩,⟨rows,r.mono λe cs _ ⟨x,e1,e2⟩=> ⟨x,e1.sub hd,e2⟩,by rw [hg 2 (by omega),h2]⟩⟩
theorem lF.inj {g:Store}{a:Nat->Nat}{c:Cfg}{me:Int}{n:dD}(h:lF g a c me n){s t:Nat}(hs:s < 3)(ht:t < 3)(e:a s=a t):s=t:=by
 obtain⟨⟨d,⟨x,_,rfl⟩,h0⟩,⟨_,_,h1⟩,⟨_,_,h2⟩⟩:=h;have hh:(g (a s)).map List.length=(g (a t)).map List.length:=by rw [e]
 match s,hs,t,ht with
 | 0,_,0,_ | 1,_,1,_ | 2,_,2,_=> rfl
 | 0,_,1,_ | 0,_,2,_ | 1,_,0,_ | 1,_,2,_ | 2,_,0,_ | 2,_,1,_=> simp [h0,h1,h2,Ah,yX,mP,bF.avx,Cfg.av] at hh
theorem lF.lens {g:Store}{a:Nat->Nat}{c:Cfg}{me:Int}{n:dD}(h:lF g a c me n){s:Nat}(hs:s < 3):∃l,g (a s)=some l/\Uj l/\(l.length=25∨l.length=4∨l.length=12):=by
 obtain⟨⟨d,⟨x,_,rfl⟩,h0⟩,⟨_,_,h1⟩,⟨_,_,h2⟩⟩:=h
 match s,hs with
 | 0,_=> exact⟨_,h0,⟨.av (.ref (a 1) 0 0),by simp [Ah],λn e=> by cases e⟩,by left;simp [Ah,bF.avx,Cfg.av]⟩
 | 1,_=> exact⟨_,h1,⟨.seq 6 _,by simp [yX];rfl,λn e=> by cases e⟩,by right;left;simp [yX]⟩
 | 2,_=> exact⟨_,h2,⟨.seq 3 _,by simp [mP];left;rfl,λn e=> by cases e⟩,by right;right;simp [mP,Cfg.av]⟩
theorem UF {f:Nat}{N:Nat->Nat->Nat}{c:Cfg}{n:Nat}{ev:List Evn}:Uj (nS f N c n ev):=⟨.av (.ref f 0 0),by simp [nS],λn e=> by cases e⟩
theorem P8(H:aj)(hb:H.base<=H.next)(c:Cfg)(h:c.ok=true){x:AV}{ps:List (List Opn)}(hx:SE H x ps)(hp:c.pR ps=true):
  ∃H' q f N g',cl 44 [.agg c.av,x] H=some (.tup [.ref q 0 0,B true],H')/\Made H H' g'/\DV g' q f N (.new c ps):=by
 have Bd:=qx h;obtain⟨hp1,hp2⟩:=Ce hp;have hn:=Bd.nodes;let H1:=H.new (.blk 0 40 c.av);have n1:H1.next=H.next+1:=rfl
 have g1:H1.get H.next=.blk 0 40 c.av:=aK rfl
 have b1:=iK g1;have e1:=YE H1 c;rw [h] at e1;have e2:=agk H1 c h (hx.gK (H':=H1) (by omega) λr hr=> aQ hr) (by omega) λl hl=> by have:=hp2 l hl;omega
 rw [hp] at e2;obtain⟨H2',f,e4,M1⟩:=agl H1.guard c h;obtain⟨H2,e4,M1⟩:=drawn e4 M1;let K:=H2.next
 let xs:List AV:=c.av++[.ref f 0 0,zN,zN]
 have hall:xs.all AV.aH=true:=by simp only [xs,zbb,dH];rfl
 have bx:∀H':aj,(∀r,r < H1.next->H'.get r=H1.get r)->H'.get H.next=.blk 0 40 c.av:=λH' hs=> by rw [hs _ (by omega),g1]
 have M2:Made H2 (H2.new (.blk 0 159 xs)) (upd nil0 K (nS f (λ_ _=> 0) c 0 [])):=by
  refine jI hall (by simp [xs,nS]) λi cc y hc hy=> ?_;rcases zaR i 8 with hi | hi
  ·left;rw [nS,zaJ (by simp [Cfg.av];omega),zaB] at hc;rw [zaJ (by simp [Cfg.av];omega)] at hy;rw [hy] at hc;exact(za3 hc).symm
  ·obtain⟨j,rfl⟩:∃j,i=8+j:=⟨i - 8,by omega⟩
   match j with
   | 0=> left;cases hc;cases hy;rfl
   | 1=> right;cases hc;cases hy;exact⟨rfl,1,rfl⟩
   | 2=> right;cases hc;cases hy;exact⟨rfl,4,rfl⟩
   | j+3=> exfalso;have:=(zaf.1 hy).1;simp [xs,Cfg.av] at this;omega
 have M0:=M1.add M2;let g0:=upd (upd nil0 f (Uk c (List.replicate (4*c.nodes.toNat) []))) K (nS f (λ_ _=> 0) c 0 []);have key:∀k i,i+k=ps.length->∀Hi gi N,Made H1 Hi gi->gi K=some (nS f N c i [])->(∀q,q < K->gi q=g0 q)->(∀(j:Nat) l,j < i->ps[j]?=some l->lF gi (N j) c j (.new c l))->ani N i->
   ∃H' g' N',I7 cl [x,.ref H.next 0 0,.ref K 0 0,I i] Hi=some (.tup [.ref K 0 0,B true],H')/\Made H1 H' g'/\g' K=some (nS f N' c ps.length [])/\(∀q,q < K->g' q=g0 q)/\(∀(j:Nat) l,j < ps.length->ps[j]?=some l->lF g' (N' j) c j (.new c l))/\ani N' ps.length:=by
  intro k
  induction k with
  | zero=>
   intro i hi Hi gi N M hm hlow hnd hj;have l0:ld (.ref H.next 0 0) Hi=some (I c.nodes,Hi):=by rw [dK (bx Hi M.same)];rfl
   have h1:¬(i:Int) < c.nodes:=by omega
   have hi':ps.length=i:=by omega
   rw [Xo];refine⟨Hi,gi,N,?_,M,by rw [hi'];exact hm,hlow,by rw [hi'];exact hnd,by rw [hi'];exact hj⟩;simp -implicitDefEqProofs only [xq_,l0,h1]
  | succ k ih=>
   intro i hi Hi gi N M hm hlow hnd hj;have l0:ld (.ref H.next 0 0) Hi=some (I c.nodes,Hi):=by rw [dK (bx Hi M.same)];rfl
   have h1:(i:Int) < c.nodes:=by omega
   have h6:(i:Int)+1=((i+1:Nat):Int):=by omega
   have h7:=wrap_i64 (a:=((i+1:Nat):Int)) (by omega) (by omega);have hxi:=hx.gK (H':=Hi) (zaz (by omega) M.next) λr hr=> by rw [M.same r (by omega)];exact aQ hr
   obtain⟨cells,x1,x2⟩:=hxi;have hcl:cells.length=ps.length:=by have:=x1.1;omega
   have s1:=x1.ix (k:=.i64) (i:=(i:Int)) (by omega) (by omega);rw [zar] at s1;have s2:=x1.ld (i:=i) (by omega);obtain⟨v,hv⟩:∃v,cells[i]?=some v:=⟨_,zab (by omega)⟩
   obtain⟨l,hl⟩:∃l,ps[i]?=some l:=⟨_,zab (by omega)⟩
   rw [hv] at s2;obtain⟨v1,v2⟩:=x2 i v l hv hl;have s4:=iK (bx Hi M.same);obtain⟨y,hy,cy⟩:=M.good.seq hm (i:=9) (m:=1) (l:=lZ N i) rfl;obtain⟨Ha',a,ga,a1,Ma,Ia⟩:=abv Hi.guard c h i l (by have:=hp2 l (zau hl);omega) v1.guard;obtain⟨Ha,a1,Ma⟩:=drawn a1 Ma;have Na:=M.trans Ma;let ga':=cup Hi.next gi ga
   have hK:=M.good.lt hm;have aeC:∀q,q < Hi.next->ga' q=gi q:=λq hq=> by simp only [ga',cup,hq,if_true]
   have aoS:∀q cs,ga q=some cs->ga' q=some cs:=λq cs hq=> by
    have:=(Ma.lt hq).1;simp only [ga',cup];rw [if_neg (by omega),hq]
   have hma:ga' K=some (nS f N c i []):=by rw [aeC K hK,hm]
   let o:dR:=.blk 0 160 [.ref (a 0) 0 0];have hnl:(lZ N i).length=i*1:=by simp [lZ]
   obtain⟨y',He,Hf,t1,t2,t3,t4⟩:=(Na.good.new o).append (e:=160) (by_:=8) (by rw [bNew,Na.base,n1];simp only [H1,bNew];omega) hma (i:=9) (l:=lZ N i) rfl (by decide) hnl ((cy.ext Ma.next Ma.same).new o) (jv (ex:=true) (n:=1) (m:=1) (l:=[.ref (a 0) 0 0]) rfl) rfl (by unfold most;omega) (by unfold most;omega);let N':Nat->Nat->Nat:=λj=> if j=i then a else N j
   have hN:∀j,j < i->N' j=N j:=λj hj=> by simp only [N'];rw [if_neg (by omega)]
   have hNi:N' i=a:=by simp only [N',if_true]
   have Mf:Made H1 Hf (upd ga' K (nS f N' c (i+1) [])):=by
    refine((Na.new o).step t3 t4).as ?_
    congr 1
    show nS f N' c (i+1) []=_;have:=Ep (N:=N) (N':=N') hN;simp only [lZ] at this;simp only [nS];rw [this,hNi];rfl
   have dat:∀q cs,ga' q=some cs->¬Uj cs->upd ga' K (nS f N' c (i+1) []) q=some cs:=λq cs hq hd=> by
    rw [upd_ne];exact hq;intro e;subst e;rw [hma] at hq;cases hq;exact hd UF
   have hal:∀s,s < 3->Hi.next<=a s/\ga' (a s)=ga (a s):=λs hs=> by
    obtain⟨l,hg⟩:=Ia.apE hs;have:=(Ma.lt hg).1;exact⟨this,by simp only [ga',cup];rw [if_neg (by omega)]⟩
   have hNl:∀j,j < i->∀s,s < 3->N j s < Hi.next:=λj hji s hs=> by
    obtain⟨lj,hlj⟩:∃l,ps[j]?=some l:=⟨_,zab (by omega)⟩
    obtain⟨l,hg⟩:=(hnd j lj hji hlj).apE hs;exact M.good.lt hg
   obtain⟨H',g',N'',r1,r2⟩:=ih (i+1) (by omega) Hf _ N' Mf upd_same (λq hq=> by
    rw [upd_ne (by omega),aeC q (by omega),hlow q hq]) (λj lj hj1 hlj=> by
    by_cases hji:j=i
    ·subst hji;rw [hl] at hlj;cases hlj;rw [hNi];exact Ia.ext (λq cs hq hd=> dat q cs (aoS q cs hq) hd) λs hs=> by
      obtain⟨h1,h2⟩:=hal s hs;rw [upd_ne (by omega),h2]
    ·rw [hN j (by omega)];refine(hnd j lj (by omega) hlj).ext (λq cs hq hd=> dat q cs (by rw [aeC q (M.good.lt hq),hq]) hd) λs hs=> ?_;have hlt:=hNl j (by omega) s hs;have hne:N j s≠K:=λe=> by
      obtain⟨l',hg,_,hl'⟩:=(hnd j lj (by omega) hlj).lens hs;rw [e,hm] at hg;cases hg;simp [nS,Cfg.av] at hl'
     rw [upd_ne hne,aeC _ hlt]) (λj k s t hj1 hk1 hs ht e=> by
    by_cases hji:j=i
    ·by_cases hki:k=i
     ·subst hji;subst hki;rw [hNi] at e;exact⟨rfl,Ia.inj hs ht e⟩
     ·subst hji;rw [hNi,hN k (by omega)] at e;have:=(hal s hs).1;have:=hNl k (by omega) t ht;omega
    ·by_cases hki:k=i
     ·subst hki;rw [hNi,hN j (by omega)] at e;have:=(hal t ht).1;have:=hNl j (by omega) s hs;omega
     ·rw [hN j (by omega),hN k (by omega)] at e;exact hj j k s t (by omega) (by omega) hs ht e)
   refine⟨H',g',N'',?_,r2⟩;rw [Xo];have eb:=jm (e:=160) (m:=1) (z:=[zP]) (v:=.ref (a 0) 0 0) (H:=Ha) rfl rfl rfl;have ec:(AV.ref (a 0) 0 0).cells=[.ref (a 0) 0 0]:=rfl;rw [ec] at eb;simp only [o] at t1 t2;simp -implicitDefEqProofs only [Nat.reduceLeDiff,xq_,hq_,l0,h1,s1,s2,s4,hy,a1,ahG,zbd,eb,t1,t2,aZ,h6,h7,r1]
 have hf:=M1.lt upd_same;obtain⟨H',g',N,r1,r2,r3,r4,r5,r6⟩:=key ps.length 0 (by omega) _ g0 (λ_ _=> 0) M0 upd_same (λq hq=> rfl) (λj l hj=> by omega) (λi j s t hi=> by omega);refine⟨H',K,f,N,g',aN rfl rfl (anW _ _ _ _ (r:=(_,H')) ?_),r2.vW,?_⟩
 ·have b2:=iK (bx H2 M1.same);have em:bd 159 [(0,.agg c.av),(1,.ref f 0 0)]=some (.agg xs):=by
   simp -implicitDefEqProofs only [xq_,ahZ,gV,dM,acK,Cfg.av,dF];rfl
  simp only [H1] at b1 e1 e2 e4;simp -implicitDefEqProofs only [Nat.reduceLT,xq_,hq_,ai9,aB (dH c),b1,e1,e2,zae,e4,em,aB hall];exact r1
 ·have gf:g' f=some (Uk c (List.replicate (4*c.nodes.toNat) [])):=by
   rw [r4 f hf.2];simp only [g0];rw [upd_ne (by omega),upd_same]
  refine⟨by rw [r3];simp [eX.new],⟨_,gf,by simp [eX.new],λi l cells hl hc=> ?_⟩,λi n hi=> ?_,by simp only [eX.new,zaE];exact r6⟩
  ·have h1:l=[]:=by
    have hm:=zau hl;simp only [eX.new,za5] at hm;obtain⟨p,hp,hl2⟩:=hm;rw [List.eq_of_mem_replicate hp] at hl2
    simpa [adh,Port.zero] using hl2
   rw [zbv] at hc;split at hc
   ·cases hc;rw [h1];exact .nil
   ·cases hc
  ·simp only [eX.new,zaB,zbo] at hi;obtain⟨l,hl,rfl⟩:=hi;exact r5 i l (zaf.1 hl).1 hl
theorem eP {α β:Type}{P:Program}{f:α->Sem β}:∀(m:Sem α),cO P (m >>=f)=(cO P m).bind λa=> cO P (f a):=by
 intro m
 induction m with
 | pure a=> rfl
 | program k ih=> exact ih P
 | _=> rfl
theorem YJ {P:Program}{t:TypeId}{d:TypeDesc}(h:P.underlying t=some d):cO P (underlying t)=some d:=by
 unfold underlying;rw [eP];show cO P (match P.underlying t with
  | some d=> pure d
  | none=> stuck "no such type")=_
 rw [h];rfl
theorem abw(d:Nat)(a b:Int):cO Tryz.prog (Op.equalIn (d+1) 3 (.int .i64 a) (.int .i64 b))=some (a==b):=by
 rw [Op.equalIn,eP,YJ Tryz.underlying3];simp only [zaV,if_true];rfl
theorem YK(d:Nat)(a b:Bool):cO Tryz.prog (Op.equalIn (d+1) 4 (.bool a) (.bool b))=some (a==b):=by
 rw [Op.equalIn,eP,YJ Tryz.underlying4];rfl
theorem agn {β:Type}(f:Program->Sem β):cO Tryz.prog (program >>=f)=cO Tryz.prog (f Tryz.prog):=rfl
theorem agp(a b:Evn):bi .neq 51 (.agg a.av) (.agg b.av)=some (B (!decide (a=b))):=by
 have e0:∀x:Evn,AV.val? (.agg x.av)=some (.agg #[.int .i64 x.node,.int .i64 x.index,.bool x.done,.int .i64 x.value]):=λx=> rfl;have g:Tryz.prog.eqGuardType Tryz.prog.depth 51=false:=by kernel_rfl
 have s:Tryz.prog.stoodInHeld 51=false:=by kernel_rfl
 have p0:∀v0 v1 v2 v3,cO Tryz.prog (part 3 #[v0,v1,v2,v3] 0)=some v0:=λv0 v1 v2 v3=> by kernel_rfl
 have p1:∀v0 v1 v2 v3,cO Tryz.prog (part 3 #[v0,v1,v2,v3] 1)=some v1:=λv0 v1 v2 v3=> by kernel_rfl
 have p2:∀v0 v1 v2 v3,cO Tryz.prog (part 4 #[v0,v1,v2,v3] 2)=some v2:=λv0 v1 v2 v3=> by kernel_rfl
 have p3:∀v0 v1 v2 v3,cO Tryz.prog (part 3 #[v0,v1,v2,v3] 3)=some v3:=λv0 v1 v2 v3=> by kernel_rfl
 have i3':=λa b=> abw 9998 a b;have i4':=λa b=> YK 9998 a b;have pg:=@agn;have main:cO Tryz.prog (Op.equalIn (9998+1+1) 51 (.agg #[.int .i64 a.node,.int .i64 a.index,.bool a.done,.int .i64 a.value]) (.agg #[.int .i64 b.node,.int .i64 b.index,.bool b.done,.int .i64 b.value]))=some (decide (a=b)):=by
  rw [Op.equalIn,eP,YJ Tryz.underlying51];simp only [zaV];simp only [pg,s];obtain⟨a0,a1,a2,a3⟩:=a;obtain⟨b0,b1,b2,b3⟩:=b;simp only [Evn.mk.injEq];by_cases h0:a0=b0;rotate_left
  ·simp [eP,p0,i3',bg,h0]
  by_cases h1:a1=b1;rotate_left
  ·simp [eP,p0,p1,i3',bg,h0,h1]
  by_cases h2:a2=b2;rotate_left
  ·simp [eP,p0,p1,p2,i3',i4',bg,h0,h1,h2]
  by_cases h3:a3=b3 <;> simp [eP,p0,p1,p2,p3,i3',i4',bg,h0,h1,h2,h3]
 simp only [bi,mZ,e0];have:cO Tryz.prog (do eqGuard .neq 51 (.tmp 0) (.tmp 0) (.agg #[.int .i64 a.node,.int .i64 a.index,.bool a.done,.int .i64 a.value]) (.agg #[.int .i64 b.node,.int .i64 b.index,.bool b.done,.int .i64 b.value]);binOp .neq 51 (.agg #[.int .i64 a.node,.int .i64 a.index,.bool a.done,.int .i64 a.value]) (.agg #[.int .i64 b.node,.int .i64 b.index,.bool b.done,.int .i64 b.value]))=some (.bool (!decide (a=b))):=by
  rw [eP];have e1:cO Tryz.prog (eqGuard .neq 51 (.tmp 0) (.tmp 0) (.agg #[.int .i64 a.node,.int .i64 a.index,.bool a.done,.int .i64 a.value]) (.agg #[.int .i64 b.node,.int .i64 b.index,.bool b.done,.int .i64 b.value]))=some ():=by
   simp only [eqGuard];simp [pg,g,bg]
  rw [e1];simp only [zaV,binOp];rw [eP];show(cO Tryz.prog (Op.equalIn (9998+1+1) 51 _ _)).bind _=_;rw [main];rfl
 rw [this];rfl
theorem abx(a b:Bool):bi .neq 4 (B a) (B b)=some (B (!decide (a=b))):=by
 cases a <;> cases b <;> kernel_rfl
theorem YL(H:aj){x y:AV}{l:List Int}(hl:l.length < 1000000000)(hx:aG H x 1 l.length (l.map I))(hy:aG H y 1 l.length (l.map I)):cl 27 [x,y] H=some (B true,H):=by
 refine aW rfl rfl (anJ _ _ _ _) ?_ dW;have e1:=hx.guard.lnS;have e2:=hy.guard.lnS;have key:∀k i,i+k=l.length->Ef cl [x,y,I i] H.guard=some (B true,H.guard):=by
  intro k
  induction k with
  | zero=>
   intro i hi;have h1:¬(i:Int) < l.length:=by omega
   rw [Xj];simp -implicitDefEqProofs only [xq_,e1,h1]
  | succ k ih=>
   intro i hi;have h1:(i:Int) < l.length:=by omega
   have h6:(i:Int)+1=((i+1:Nat):Int):=by omega
   have h7:=wrap_i64 (a:=((i+1:Nat):Int)) (by omega) (by omega);have s1:=hx.guard.ix (k:=.i64) (i:=(i:Int)) (by omega) h1;have s2:=hy.guard.ix (k:=.i64) (i:=(i:Int)) (by omega) h1;rw [zar] at s1 s2;have t1:=hx.guard.ld (i:=i) (by omega);have t2:=hy.guard.ld (i:=i) (by omega);rw [zaB,zab (show i < l.length by omega)] at t1 t2;have r1:=ih (i+1) (by omega);rw [Xj];simp -implicitDefEqProofs only [xq_,e1,h1,s1,s2,t1,t2,eq_self,zae,aZ,h6,h7,r1]
 have r1:=key l.length 0 (by omega);have r1':Ef cl [x,y,I 0] H.guard=some (B true,H.guard):=r1;simp -implicitDefEqProofs only [xq_,aiY,e1,e2,eq_self,zae,r1']
theorem agq(H:aj){x y:AV}{l:List Evn}(hl:l.length < 1000000000)(hx:aG H x 4 l.length (l.flatMap Evn.av))(hy:aG H y 4 l.length (l.flatMap Evn.av)):cl 26 [x,y] H=some (B true,H):=by
 refine aW rfl rfl (anI _ _ _ _) ?_ dW;have e1:=hx.guard.lnS;have e2:=hy.guard.lnS;have key:∀k i,i+k=l.length->Ee cl [x,y,I i] H.guard=some (B true,H.guard):=by
  intro k
  induction k with
  | zero=>
   intro i hi;have h1:¬(i:Int) < l.length:=by omega
   rw [Xi];simp -implicitDefEqProofs only [xq_,e1,h1]
  | succ k ih=>
   intro i hi;have h1:(i:Int) < l.length:=by omega
   have h6:(i:Int)+1=((i+1:Nat):Int):=by omega
   have h7:=wrap_i64 (a:=((i+1:Nat):Int)) (by omega) (by omega);have s1:=hx.guard.ix (k:=.i64) (i:=(i:Int)) (by omega) h1;have s2:=hy.guard.ix (k:=.i64) (i:=(i:Int)) (by omega) h1;rw [zar] at s1 s2;obtain⟨a,ha⟩:∃a,l[i]?=some a:=⟨_,zab (by omega)⟩
   have t1:=iW lq hx.guard ha;have t2:=iW lq hy.guard ha;have r1:=ih (i+1) (by omega);rw [Xi];simp -implicitDefEqProofs only [xq_,e1,h1,s1,s2,t1,t2,agp,eq_self,zae,aZ,h6,h7,r1]
 have r1':Ee cl [x,y,I 0] H.guard=some (B true,H.guard):=key l.length 0 (by omega);simp -implicitDefEqProofs only [xq_,aiW,e1,e2,eq_self,zae,r1']
structure jU(H:aj)(x:AV)(l:List Int):Prop where
 is:aG H x 1 l.length (l.map I)
 one:One x
 nil:l=[]->x=zN
theorem nC(H:aj)(l:List Int):jU H (dat l) l:=⟨jr H l,pK,λh=> by rw [h,dat,dQ]⟩
theorem jU.guard {H:aj}{x:AV}{l:List Int}(h:jU H x l):jU H.guard x l:=⟨h.is.guard,h.one,h.nil⟩
theorem jU.new {H:aj}{x:AV}{l:List Int}(h:jU H x l)(o:dR):jU (H.new o) x l:=⟨h.is.new o,h.one,h.nil⟩
theorem jU.gK {H H':aj}{x:AV}{l:List Int}(h:jU H x l)(hn:H.next<=H'.next)(hg:∀r,r < H.next->H'.get r=H.get r):jU H' x l:=⟨h.is.gK hn λr _ hr=> hg r hr,h.one,h.nil⟩
theorem Ci {p:Pkt}{x:AV}(h:One x):(p.avx x).all AV.aH=true:=by simp [Pkt.avx,fP,jC,h.2]
theorem aby {p:Ent}{x:AV}(h:One x):(p.avx x).all AV.aH=true:=by simp [Ent.avx,fP,jC,h.2]
section
variable {b:Nat}{H H':aj}{g:Store}{q:Nat}{cs:List Cell}
theorem OS.own {τ:Nat->Option Tag}{T:Tag}{x:AV}{m:Nat}{l:List AV}(h:OS b H τ T x m l):Own b H x m l:=by
 rcases h with h | ⟨r,g,off,n,cap,ex,ty,all,k0,_,k2⟩
 ·exact .inl h
 ·exact .inr ⟨r,g,off,n,cap,ex,ty,all,k0,k2⟩
theorem Own.one {x:AV}{m:Nat}{l:List AV}(h:Own b H x m l):One x:=by
 rcases h with⟨rfl,_⟩ | ⟨r,g,off,n,cap,ex,ty,all,rfl,_⟩
 ·exact mJ
 ·exact qj
theorem SL {α:Type}:∀{es:List (Int × α)} {n:Int} {v:α},je es n=some v->∃j:Nat,es[j]?=some (n,v)/\∀k,k < j->∀e,es[k]?=some e->e.1≠n
 | [],_,_,h=> by cases h
 | (k,w)::es,n,v,h=> by
  simp only [je] at h;split at h
  ·rename_i e;subst e;cases h;exact⟨0,rfl,λk hk=> by omega⟩
  ·rename_i e;obtain⟨j,h1,h2⟩:=SL h;refine⟨j+1,h1,λk hk x hx=> ?_⟩;cases k with
   | zero=> cases hx;exact e
   | succ k=> exact h2 k (by omega) x (by simpa using hx)
theorem Eu {α:Type}:∀{es:List (Int × α)} {n:Int},je es n=none↔n∉es.map (·.1)
 | [],_=> by simp [je]
 | (k,w)::es,n=> by
  simp only [je];by_cases e:k=n
  ·simp [e]
  ·simp only [e,if_false,zaC,zam,not_or];rw [Eu];exact⟨λh=> ⟨λh'=> e h'.symm,h⟩,λh=> h.2⟩
theorem qB:∀(es:List (Int × AV)) (n:Int),nM es n=je es n
 | [],_=> rfl
 | (k,w)::es,n=> by
  simp only [nM,je];split
  ·rfl
  ·exact qB es n
theorem Nk {α β:Type}:∀{es:List (Int × α)} {az:List (Int × β)} {n:Int},az.map (·.1)=es.map (·.1)->(je es n=none↔je az n=none):=by
 intro es az n h;rw [Eu,Eu,h]
theorem Ew {α β:Type}:∀{es:List (Int × α)} {az:List (Int × β)} {n:Int} {v:α},az.map (·.1)=es.map (·.1)->je es n=some v->∃(j:Nat) (w:β),je az n=some w/\es[j]?=some (n,v)/\az[j]?=some (n,w)
 | [],_,_,_,_,h=> by cases h
 | (k,v0)::es,[],_,_,h,_=> by simp at h
 | (k,v0)::es,(k',w0)::az,n,v,h,h'=> by
  simp only [zaC,zbW] at h;obtain⟨rfl,h⟩:=h;simp only [je] at h' ⊢;split at h'
  ·rename_i e;subst e;cases h';exact⟨0,w0,by simp,rfl,rfl⟩
  ·rename_i e;obtain⟨j,w,h1,h2,h3⟩:=Ew h h';exact⟨j+1,w,by simp only [e,if_false];exact h1,h2,h3⟩
theorem Good.maps(G:Good b H g)(h:g q=some cs){i m:Nat}{k:IntKind}{es:List (Int × List AV)}(hi:cs[i]?=some (.maps k m es)):
  ∃r,ld (.ref q 0 i) H=some (.mp r,H)/\lnM (.mp r) H=some (I es.length,H)/\∀z n,∃x,(je es n=none->x=.s z)/\(∀l,je es n=some l->Own b H x m l)/\∀ok,lk k z (.mp r) (.s (.int k n)) ok H=some ((if ok then .tup [x,B (je es n).isSome] else x),H):=by
 obtain⟨h0,τ,hR⟩:=G;have R:=hR q cs h;obtain⟨ty,xs,h1,h2,h3,h4⟩:=R.blk;have hlt:i < xs.length:=by rw [h2];exact(zaf.1 hi).1
 have hx:xs[i]?=some (xs[i]'hlt):=zab hlt;have:=h4 i _ _ hi hx;simp only [CR] at this;obtain⟨aes,⟨r,e,t1,t2,t3,t4⟩,a2,a3⟩:=this;rw [e] at hx;refine⟨r,by rw [dK h1,hx];rfl,?_,λz n=> ?_⟩
 ·simp only [lnM,jy,aT,zah,am5,t4];have:=congrArg List.length a2;simp only [zaE] at this;rw [this]
 ·cases hn:je es n with
  | none=>
   have hf:nM aes n=none:=by rw [qB];exact(Nk a2).1 hn
   refine⟨.s z,λ_=> rfl,λl hl=> (by cases hl),λok=> ?_⟩;simp only [lk,jy,aT,zah,lkO,t4,and_self,if_true,hf];cases ok <;> rfl
  | some l=>
   obtain⟨j,w,b1,b2,b3⟩:=Ew a2 hn;refine⟨w,λh=> (by cases h),λl' hl=> (by cases hl;exact(a3 j n l w b2 b3).own),λok=> ?_⟩;simp only [lk,jy,aT,zah,lkO,t4,and_self,if_true,qB,b1];cases ok <;> rfl
end
theorem Nl(H:aj){l:List Int}(hl:l.length < 1000000000){x:AV}(hx:jU H x l):cl 46 [x] H=some (dat l,H):=by
 by_cases h:l=[]
 ·rw [hx.nil h];subst h;have t:=jf H [] (by simp);have z:dat ([]:List Int)=zN:=by simp [dat,dQ]
  rw [z] at t ⊢;exact t
 ·have h0:l.length≠0:=λe=> h (zan e);have e2:=nR (e:=3) (by_:=8) (r:=H.guard.next) (H:=H.guard.new (.blk 0 3 [])) nP (hx.is.guard.new _) (uY l) h0 (by unfold most;omega) (by unfold most;omega);simp only [yU,nNew] at e2;refine eu rfl rfl (PE _ _ _ (r:=(.sl (H.next+1) 0 0 1 l.length l.length false,(H.guard.new (.blk 0 3 [])).new (.blk 0 (3+eH) (l.map I)))) ?_) ?_
  ·have e1:bi .eql 22 x zN=some (B false):=aG.Yv Tryz.underlying22 hx.is h0;simp -implicitDefEqProofs only [xq_,LY,e1,Dx,rG,e2,zba,zaT]
  ·rw [uo h];refine gZ (by omega) (cells:=l.map I) ?_ (dZ _ λx hx=> oZ l x hx _ _);simp only [aX,iD,nNew,yU,if_true];rw [if_pos (by simp),zaP,zas (by simp)]
theorem JB(e:Ent){d:Nat}:∀x∈e.av,Frz (d+2) x:=λx hx=> by
 simp only [Ent.av,zam,zaI,or_false] at hx;rcases hx with rfl | rfl | rfl | rfl | rfl | rfl <;> first | exact dW | exact rE
theorem ags(e:Row){d:Nat}:∀x∈e.av,Frz (d+2) x:=λx hx=> by
 simp only [Row.av,zam,zaI,or_false] at hx;rcases hx with rfl | rfl | rfl <;> first | exact dW | exact rE
theorem rU:Ent.zero.av=[zI,zI,zI,zI,zB,zN]:=by simp [Ent.zero,Ent.av,dat,dQ]
theorem abz:Row.zero.av=[zI,zI,zN]:=by simp [Row.zero,Row.av,dat,dQ]
theorem SN(H:aj)(e:Ent){x:AV}(hl:e.data.length < 1000000000)(hx:jU H x e.data):cl 72 [.agg (e.avx x)] H=some (.agg e.av,H):=by
 refine aW rfl rfl (aoj _ _ _) ?_ (kD (JB e));have e1:=λo o'=> Nl ((H.guard.new o).new o') hl ((hx.guard.new o).new o');simp -implicitDefEqProofs only [Nat.reduceLT,Nat.reduceAdd,setAt,xq_,hq_,ajr,aB,hx.one.2,Ent.avx,e1,Ent.av]
section
variable {b:Nat}{H:aj}{g:Store}{q:Nat}
theorem aqh(H:aj)(e:Ent){r:Nat}{line:Int}(h:∀H':aj,H'.get=H.get->ld (.ref r 0 0) H'=some (I line,H'))(hr:r < H.next):cl 120 [.agg e.av,.ref r 0 0] H=some (B (decide (e.line=line)),H):=by
 refine aW rfl rfl (aki _ _ _ _) ?_ dW;have e1:=h H.guard rfl;simp -implicitDefEqProofs only [Nat.reduceLT,xq_,hq_,adD,aB,Ent.av,e1,hr]
theorem Ey(G:Good b H g){c:Cache}(h:g q=some (bC c))(hl:c.l.length < 1000000)(line:Int):cl 71 [.ref q 0 0,I line] H=some (I (Cc (c.at_ line)),H):=by
 refine aW rfl rfl (aoi _ _ _ _) ?_ dW;have G1:=G.guard.new (.blk 0 3 [I line]);obtain⟨x,hx,c1⟩:=G1.seq h (i:=0) rfl;have hs:=c1.is (by decide) (bf bP c.l);have e2:=MN (H.guard.new (.blk 0 3 [I line])) (enc:=Ent.av) bP (f:=.fn (.func 120) [] [.ref H.next 0 0]) hs (by omega) (λe=> decide (e.line=line)) (λe _=> by
  rw [xE (by kernel_rfl)];exact aqh _ e (λH' hg=> by rw [dK (g:=0) (ty:=3) (xs:=[I line]) (by rw [hg];exact aK rfl)];rfl) (by rw [nNew,yU];omega))
 have eb:fA 3 (I line) H.guard=some (.ref H.next 0 0,H.guard.new (.blk 0 3 [I line])):=rfl;simp -implicitDefEqProofs only [xq_,ajq,eb,hx,e2];rfl
theorem pq {α:Type}{p:α->Bool}:∀l:List α,(l.findIdx? p).bind (λi=> l[i]?)=l.find? p
 | []=> rfl
 | a::l=> by
  rw [List.findIdx?_cons,List.find?_cons];cases h:p a with
  | true=> simp
  | false=>
   simp only [zai,if_false];rw [<-pq l];cases l.findIdx? p <;> simp
def mg(o:Option Ent):AV:=.tup [.agg (o.getD .zero).av,B o.isSome]
theorem UG(o:Option Ent):Frz 9 (mg o):=rD λx hx=> by
 simp only [zam,zaI,or_false] at hx;rcases hx with rfl | rfl
 ·exact kD (JB _)
 ·exact dW
theorem oq(G:Good b H g){c:Cache}(h:g q=some (bC c))(hl:c.l.length < 1000000)(hd:∀e∈c.l,e.data.length < 1000000000)(line:Int):cl 37 [.ref q 0 0,I line] H=some (mg (c.find line),H):=by
 refine aW rfl rfl (anR _ _ _ _) ?_ (UG _);have G1:=G.guard.new (.blk 0 93 [zI,zI,zI,zI,zB,zN]);have e1:=Ey G1 h hl line;have hf:c.find line=(c.at_ line).bind λi=> c.l[i]?:=(pq c.l).symm;cases ha:c.at_ line with
 | none=>
  rw [ha] at e1 hf;have hn:Cc (none:Option Nat)=-1:=rfl;rw [hn] at e1;simp -implicitDefEqProofs only [Int.reduceLT,Int.reduceNeg,Nat.reduceAdd,setAt,xq_,hq_,afF,e1,ahQ,gV,bZ,hf,mg,rU,za0,zaL,Option.bind_none]
 | some i=>
  rw [ha] at e1 hf;have hi:i < c.l.length:=zby.1 ha |>.1
  obtain⟨e,he⟩:∃e,c.l[i]?=some e:=⟨_,zab hi⟩
  have hn:Cc (some i)=(i:Int):=rfl;rw [hn] at e1;have h0:¬(i:Int) < 0:=by omega
  obtain⟨x,hx,c1⟩:=G1.seq h (i:=0) rfl;have hs:=c1.is (by decide) (bf bP c.l);have e3:=hs.ix (k:=.i64) (i:=(i:Int)) (by omega) (by omega);rw [zar] at e3;have e4:=iW bP hs he;have e5:=λH=> SN H e (hd e (zau he)) (nC H e.data);have e6:e.avx (dat e.data)=e.av:=rfl;rw [e6] at e5;have hf':c.find line=some e:=by rw [hf];exact he
  simp -implicitDefEqProofs only [Nat.reduceAdd,setAt,xq_,hq_,afF,e1,h0,hx,e3,e4,e5,hf',mg,zay,zaM]
theorem alQ(G:Good b H g){c:Cfg}{rows:Rows}(h:g q=some (AL c rows))(hd:∀e∈rows,e.2.data.length < 1000000000)(line:Int):cl 74 [.ref q 0 0,I line] H=some (.tup [.agg (rowOf rows line).av,B (je rows line).isSome],H):=by
 refine aW rfl rfl (aok _ _ _ _) ?_ (rD λx hx=> ?_)
 ·have G1:=G.guard.new (.blk 0 100 [zI,zI,zN]);obtain⟨r,f1,f2,_⟩:=G1.map h (i:=8) rfl;have f3:=f2 (.agg #[.int .i64 0,.int .i64 0,.slice none 0 0]) line true;rw [uS] at f3;cases hr:je rows line with
  | none=>
   have e5:=λH=> jf H [] (by simp);have z0:dat ([]:List Int)=zN:=by simp [dat,dQ]
   rw [z0] at e5;have zc:AV.cells (.s (.agg #[.int .i64 0,.int .i64 0,.slice none 0 0]))=[zI,zI,zN]:=rfl;simp only [hr,Option.map_none,if_true] at f3;have zn:zN.aH=true:=rfl;have zn':zN.cells=[zN]:=rfl;simp -implicitDefEqProofs only [Nat.reduceAdd,setAt,xq_,hq_,afP,f1,f3,zc,e5,rowOf,hr,abz,za0,zaL,zn,zn']
  | some w=>
   simp only [hr,zah,if_true] at f3;have hm:w.data.length < 1000000000:=by
    obtain⟨j,hj,_⟩:=SL hr;exact hd _ (zau hj)
   have e5:=λH=> jf H w.data hm;simp -implicitDefEqProofs only [Nat.reduceAdd,setAt,xq_,hq_,afP,f1,f3,Row.av,e5,rowOf,hr,zay,zaM]
 ·simp only [zam,zaI,or_false] at hx;rcases hx with rfl | rfl
  ·exact kD (ags _)
  ·exact dW
theorem UH(G:Good b H g){t:Turns}(h:g q=some (fZ t))(line:Int):cl 75 [.ref q 0 0,I line] H=some (I (t.owner line),H):=by
 refine aW rfl rfl (aol _ _ _ _) ?_ dW;obtain⟨r,f1,f2,_⟩:=G.guard.map h (i:=0) rfl;have f3:=f2 (.int .i64 0) line true;rw [uS] at f3;cases hr:je t.iq line with
 | none=>
  simp only [hr,Option.map_none,if_true] at f3;simp -implicitDefEqProofs only [Int.reduceNeg,xq_,afQ,f1,f3,Turns.owner,hr,za0]
 | some w=>
  simp only [hr,zah,if_true] at f3;simp -implicitDefEqProofs only [Int.reduceNeg,xq_,afQ,f1,f3,Turns.owner,hr,zay]
theorem vg(G:Good b H g){t:Turns}(h:g q=some (fZ t))(line:Int):cl 193 [.ref q 0 0,I line] H=some (B (t.owned line),H):=by
 refine aW rfl rfl (alh _ _ _ _) ?_ dW;obtain⟨r,f1,f2,_⟩:=G.guard.map h (i:=0) rfl;have f3:=f2 (.int .i64 0) line true;rw [uS] at f3;cases hr:je t.iq line with
 | none=>
  simp only [hr,Option.map_none,if_true] at f3;simp -implicitDefEqProofs only [xq_,X6,f1,f3,Turns.owned,hr,zaL]
 | some w=>
  simp only [hr,zah,if_true] at f3;simp -implicitDefEqProofs only [xq_,X6,f1,f3,Turns.owned,hr,zaM]
def EY(w:Int × Int):List AV:=[I w.1,I w.2]
theorem JC {α β:Type}(f:α->β):∀(es:List (Int × α)) (n:Int),je (es.map λe=> (e.1,f e.2)) n=(je es n).map f
 | [],_=> rfl
 | (k,v)::es,n=> by
  simp only [zaC,je];split
  ·rfl
  ·exact JC f es n
theorem alR(G:Good b H g){t:Turns}(h:g q=some (fZ t))(line:Int):∃r x,ld (.ref q 0 1) H=some (.mp r,H)/\lk .i64 (.slice none 0 0) (.mp r) (I line) false H=some (x,H)/\Own b H x 2 ((t.ws line).flatMap EY):=by
 obtain⟨r,f1,_,f2⟩:=G.maps h (i:=1) rfl;obtain⟨x,x1,x2,x3⟩:=f2 (.slice none 0 0) line;refine⟨r,x,f1,x3 false,?_⟩;rw [JC (λl:List (Int × Int)=> l.flatMap λw=> [I w.1,I w.2])] at x1 x2;simp only [show(λw:Int × Int=> [I w.1,I w.2])=EY from rfl] at x1 x2;cases hr:je t.wait line with
 | none=>
  rw [hr] at x1;exact .inl ⟨x1 rfl,by simp [Turns.ws,hr]⟩
 | some w=>
  rw [hr] at x2;have:=x2 _ rfl
  simpa [Turns.ws,hr] using this
theorem uF(G:Good b H g){t:Turns}(h:g q=some (fZ t))(line:Int):cl 194 [.ref q 0 0,I line] H=some (I (t.ws line).length,H):=by
 refine aW rfl rfl (ali _ _ _ _) ?_ dW;obtain⟨r,x,f1,f2,f3⟩:=alR G.guard h line;have e:=(f3.is (n:=(t.ws line).length) (by decide) (bf (enc:=EY) (λ_=> rfl) _)).lnS;simp -implicitDefEqProofs only [xq_,aeo,f1,f2,e]
theorem SQ {e m by_ r ty:Nat}{y:AV}{H:aj}(hx:H.get r=.blk 0 ty [])(hy:aG H y m 0 []):app e m by_ (.sl r 0 0 m 0 0 true) y H=some (.sl r 0 0 m 0 0 true,H):=by
 obtain⟨c1,c2⟩:=hy.sK;simp only [app,c1,c2,bU];rw [if_pos ⟨by simp,rfl⟩];simp only [hx];rw [if_pos ⟨trivial,trivial,by simp⟩,if_pos trivial]
theorem P9(H:aj){l:List Int}(hl:l.length < 1000000000){x:AV}(hx:aG H x 1 l.length (l.flatMap encI))(hf:∀a:Int,∀z∈encI a,Frz 8 z)(ha:∀a:Int,(encI a).all AV.aH=true)(hm:∀a:Int,(encI a).length=1):∃y,cl 46 [x] H=some (y,H)/\∀H':aj,aG H' y 1 l.length (l.flatMap encI):=by
 by_cases hz:x=zN
 ·subst hz;have h0:l=[]:=by
   have h1:=hx.2.2.2;exact zan h1
  subst h0;refine⟨zN,eu rfl rfl (PE _ _ _ (r:=(zN,H.guard)) ?_) fJ,λ_=> aG.nil⟩;have e:bi .eql 22 zN zN=some (B true):=by kernel_rfl
  simp -implicitDefEqProofs only [xq_,LY,e]
 ·have e1:bi .eql 22 x zN=some (B false):=by
   obtain⟨_,hx⟩:=hx;cases x with
   | sl r g o m n c ex=> exact uP Tryz.underlying22
   | vs n m l=> exact nJ Tryz.underlying22
   | s v=>
    cases v with
    | slice a b c=>
     cases a with
     | none=> obtain⟨rfl,rfl,_⟩:=hx;exact absurd rfl hz
     | some a=> exact hx.elim
    | _=> exact hx.elim
   | _=> exact hx.elim
  let H1:=H.guard.new (.blk 0 3 []);have x1:aG H1 x 1 l.length (l.flatMap encI):=hx.guard.new _;by_cases h:l=[]
  ·subst h;have e2:=SQ (e:=3) (by_:=8) (r:=H.next) (H:=H1) (aK rfl) x1;refine⟨.vs 0 1 [],eu rfl rfl (PE _ _ _ (r:=(.sl H.next 0 0 1 0 0 true,H1)) ?_) ?_,λ_=> aG.vs rfl⟩
   ·simp only [H1] at e2;simp -implicitDefEqProofs only [xq_,LY,e1,Dx,rG,e2,zba,zaT];rfl
   ·refine gZ (zac _) (cells:=[]) ?_ rfl;have:H1.get H.next=.blk 0 3 []:=aK rfl
    simp only [aX,this];rfl
  ·have h0:l.length≠0:=λe=> h (zan e);have e2:=nR (e:=3) (by_:=8) (r:=H.next) (H:=H1) (aK rfl) x1 (xB ha l) h0 (by unfold most;omega) (by unfold most;omega);refine⟨.vs l.length 1 (l.flatMap encI),eu rfl rfl (PE _ _ _ (r:=(.sl (H.next+1) 0 0 1 l.length l.length false,H1.new (.blk 0 (3+eH) (l.flatMap encI)))) ?_) ?_,λ_=> aG.vs (bf hm l)⟩
   ·have n1:H1.next=H.next+1:=rfl
    rw [n1] at e2;simp only [H1] at e2;simp -implicitDefEqProofs only [xq_,LY,e1,Dx,rG,e2,zba,zaT];rfl
   ·refine gZ (by omega) (cells:=l.flatMap encI) ?_ (dZ _ λz hz=> Ju hf l z hz _ _);have:(H1.new (.blk 0 (3+eH) (l.flatMap encI))).get (H.next+1)=.blk 0 (3+eH) (l.flatMap encI):=aK rfl;simp only [aX,this];rw [if_pos ⟨trivial,by rw [bf hm];omega⟩,zaP,zas (by rw [bf hm];exact zac _)]
theorem Qa(H:aj){l:List Evn}(hl:l.length < 1000000000){x:AV}(hx:aG H x 4 l.length (l.flatMap Evn.av))(hf:∀a:Evn,∀z∈Evn.av a,Frz 8 z)(ha:∀a:Evn,(Evn.av a).all AV.aH=true)(hm:∀a:Evn,(Evn.av a).length=4):∃y,cl 49 [x] H=some (y,H)/\∀H':aj,aG H' y 4 l.length (l.flatMap Evn.av):=by
 by_cases hz:x=zN
 ·subst hz;have h0:l=[]:=by
   have h1:=hx.2.2.2;exact zan h1
  subst h0;refine⟨zN,eu rfl rfl (afI _ _ _ (r:=(zN,H.guard)) ?_) fJ,λ_=> aG.nil⟩;have e:bi .eql 48 zN zN=some (B true):=by kernel_rfl
  simp -implicitDefEqProofs only [xq_,aaX,e]
 ·have e1:bi .eql 48 x zN=some (B false):=by
   obtain⟨_,hx⟩:=hx;cases x with
   | sl r g o m n c ex=> exact uP Tryz.underlying48
   | vs n m l=> exact nJ Tryz.underlying48
   | s v=>
    cases v with
    | slice a b c=>
     cases a with
     | none=> obtain⟨rfl,rfl,_⟩:=hx;exact absurd rfl hz
     | some a=> exact hx.elim
    | _=> exact hx.elim
   | _=> exact hx.elim
  let H1:=H.guard.new (.blk 0 51 []);have x1:aG H1 x 4 l.length (l.flatMap Evn.av):=hx.guard.new _;by_cases h:l=[]
  ·subst h;have e2:=SQ (e:=51) (by_:=32) (r:=H.next) (H:=H1) (aK rfl) x1;refine⟨.vs 0 4 [],eu rfl rfl (afI _ _ _ (r:=(.sl H.next 0 0 4 0 0 true,H1)) ?_) ?_,λ_=> aG.vs rfl⟩
   ·simp only [H1] at e2;simp -implicitDefEqProofs only [xq_,aaX,e1,aax,rG,e2,zba,zaT];rfl
   ·refine gZ (zac _) (cells:=[]) ?_ rfl;have:H1.get H.next=.blk 0 51 []:=aK rfl
    simp only [aX,this];rfl
  ·have h0:l.length≠0:=λe=> h (zan e);have e2:=nR (e:=51) (by_:=32) (r:=H.next) (H:=H1) (aK rfl) x1 (xB ha l) h0 (by unfold most;omega) (by unfold most;omega);refine⟨.vs l.length 4 (l.flatMap Evn.av),eu rfl rfl (afI _ _ _ (r:=(.sl (H.next+1) 0 0 4 l.length l.length false,H1.new (.blk 0 (51+eH) (l.flatMap Evn.av)))) ?_) ?_,λ_=> aG.vs (bf hm l)⟩
   ·have n1:H1.next=H.next+1:=rfl
    rw [n1] at e2;simp only [H1] at e2;simp -implicitDefEqProofs only [xq_,aaX,e1,aax,rG,e2,zba,zaT];rfl
   ·refine gZ (by omega) (cells:=l.flatMap Evn.av) ?_ (dZ _ λz hz=> Ju hf l z hz _ _);have:(H1.new (.blk 0 (51+eH) (l.flatMap Evn.av))).get (H.next+1)=.blk 0 (51+eH) (l.flatMap Evn.av):=aK rfl;simp only [aX,this];rw [if_pos ⟨trivial,by rw [bf hm];omega⟩,zaP,zas (by rw [bf hm];exact zac _)]
theorem Np {x:AV}{m n:Nat}{cells:List AV}(h:∀H':aj,aG H' x m n cells)(hz:∀z∈cells,Frz 8 z):Frz 9 x:=by
 have h0:=h aj.empty;obtain⟨hl,h1⟩:=h0;cases x with
 | sl r g o m n c ex=> exact absurd h1.2.2.1.1 (by simp [aj.empty])
 | vs n m l=> obtain⟨_,_,rfl⟩:=h1;exact ac5 hz
 | s v=> exact dW
 | _=> exact h1.elim
theorem Gy(G:Good b H g){p:Proc}(h:g q=some (nX p))(h2:p.values.length < 1000):∃x,cl 29 [.ref q 0 0] H=some (x,H)/\∀H':aj,aG H' x 1 p.values.length (p.values.map I):=by
 obtain⟨x,hx,c⟩:=G.guard.seq h (i:=1) rfl;obtain⟨y,e,hy⟩:=P9 H.guard (l:=p.values) (by omega) (by rw [xw];exact c.is (by decide) (by simp)) (λa z hz=> by simp only [encI,zaS] at hz;subst hz;exact dW) (λ_=> rfl) (λ_=> rfl);rw [xw] at hy;refine⟨y,aW rfl rfl (anL _ _ _) ?_ (Np hy (oZ _)),hy⟩;simp -implicitDefEqProofs only [xq_,ai1,hx,e]
theorem Ez(G:Good b H g){l:List Evn}(h:g q=some (kJ l))(h2:l.length < 1000000):∃x,cl 15 [.ref q 0 0] H=some (x,H)/\∀H':aj,aG H' x 4 l.length (l.flatMap Evn.av):=by
 obtain⟨x,hx,c⟩:=G.guard.seq h (i:=0) rfl;obtain⟨y,e,hy⟩:=Qa H.guard (l:=l) (by omega) (c.is (by decide) (bf lq l)) Yr yS lq;refine⟨y,aW rfl rfl (anx _ _ _) ?_ (Np hy λz hz=> ?_),hy⟩
 ·simp -implicitDefEqProofs only [xq_,aiO,hx,e]
 ·obtain⟨a,_,ha⟩:=za5.1 hz;exact Yr a z ha
theorem JD(G:Good b H g){A:Adr}{m:fK}(M:fC g A m)(hn:m.nodes.length < 1000)(i:Int):cl 17 [.ref A.jO 0 0,I i] H=some (if 0<=i/\i < m.nodes.length then .ref (A.N i.toNat 0) 0 0 else zP,H):=by
 obtain⟨x,hx,c⟩:=G.guard.seq M.jO (i:=10) rfl;have hs:=c.is (n:=m.nodes.length) (by decide) (uz _ _);have e2:=hs.lnS;have hall:aV H.guard H.next 9 (if 0<=i/\i < m.nodes.length then .ref (A.N i.toNat 0) 0 0 else zP)=some (if 0<=i/\i < m.nodes.length then .ref (A.N i.toNat 0) 0 0 else zP):=by
  split
  ·rename_i h;obtain⟨n,hn⟩:∃n,m.nodes[i.toNat]?=some n:=⟨_,zab (by omega)⟩
   have:=G.lt (M.node _ n hn).1;rw [aV];simp only [this,if_true]
  ·exact fJ
 refine eu rfl rfl (anB _ _ _ _ (r:=(_,H.guard)) ?_) hall;by_cases h0:i < 0
 ·have:¬(0<=i/\i < m.nodes.length):=by omega
  rw [if_neg this];simp -implicitDefEqProofs only [xq_,aaT,h0]
 ·by_cases h1:(m.nodes.length:Int)<=i
  ·have:¬(0<=i/\i < m.nodes.length):=by omega
   rw [if_neg this];simp -implicitDefEqProofs only [xq_,aaT,h0,hx,e2,h1]
  ·have:0<=i/\i < m.nodes.length:=by omega
   rw [if_pos this];have e3:=hs.ix (k:=.i64) (i:=i) (by omega) (by omega);have e4:=hs.ld (i:=i.toNat) (by omega);rw [Et (by omega)] at e4;simp -implicitDefEqProofs only [xq_,aaT,h0,hx,e2,h1,e3,e4]
end
def uG:List (List Pkt)->Nat->Int->Option (Nat × Int)
 | [],_,_=> none
 | l::ls,j,at_=> if 0<=at_/\at_ < l.length then some (j,at_) else uG ls (j+1) (at_ - l.length)
theorem qC:∀{ls:List (List Pkt)} {j:Nat} {at_:Int} {j':Nat} {k:Int},uG ls j at_=some (j',k)->j<=j'/\∃l,ls[j' - j]?=some l/\0<=k/\k < l.length/\0<=at_/\ls.flatten[at_.toNat]?=l[k.toNat]?
 | [],_,_,_,_,h=> by cases h
 | l::ls,j,at_,j',k,h=> by
  simp only [uG] at h;split at h
  ·rename_i hc;cases h;refine⟨zac _,l,by simp,hc.1,hc.2,hc.1,?_⟩;rw [List.flatten_cons,zaJ (by omega)]
  ·rename_i hc;obtain⟨h1,l',h2,h3,h4,h5,h6⟩:=qC h;refine⟨by omega,l',by rw [show j' - j=(j' - (j+1))+1 by omega];simpa using h2,h3,h4,by omega,?_⟩;rw [List.flatten_cons,zaY (by omega),<-h6]
   congr 1;omega
theorem zH:∀{ls:List (List Pkt)} {j:Nat} {at_:Int},uG ls j at_=none->at_ < 0∨(ls.flatten.length:Int)<=at_
 | [],_,_,_=> by simp;omega
 | l::ls,j,at_,h=> by
  simp only [uG] at h;split at h
  ·cases h
  ·rename_i hc;have:=zH h;rw [List.flatten_cons,zaq];omega
theorem zJ:∀l:List Port,(l.flatMap λp=> [p.rq,p.an]).flatten=l.flatMap λp=> p.rq++p.an
 | []=> rfl
 | p::l=> by simp [zJ l]
def jE(P:Nat->Nat->Nat)(j:Nat):List AV:=[.ref (P (j / 2) (if j % 2=0 then 0 else 2)) 0 0,.ref (P (j / 2) (if j % 2=0 then 1 else 3)) 0 0]
theorem Nq {P:Nat->Nat->Nat}{n j:Nat}(h:j < 2*n):((gu P n).drop (j*2)).take 2=jE P j:=by
 have hi:j / 2 < n:=by omega
 have hfl:=flat_get (m:=4) (enc:=λi=> lH (P i)) (λ_=> rfl) (List.range n) (j / 2) (j / 2) (zbm hi);rcases Nat.mod_two_eq_zero_or_one j with h0 | h0
 ·have e:((gu P n).drop (j*2)).take 2=(((gu P n).drop (j / 2*4)).take 4).take 2:=by
   rw [zbU,show j / 2*4=j*2 by omega];rfl
  rw [e];refine(congrArg (List.take 2) hfl).trans ?_;simp [jE,h0,lH]
 ·have e:((gu P n).drop (j*2)).take 2=((((gu P n).drop (j / 2*4)).take 4).drop 2).take 2:=by
   rw [zce,zbE,zbU,show j / 2*4+2=j*2 by omega];rfl
  rw [e];refine(congrArg (λl=> (List.drop 2 l).take 2) hfl).trans ?_;simp [jE,h0,lH]
theorem YM {g:Store}{f:Nat}{P:Nat->Nat->Nat}{c:Cfg}{fab:Fab}(F:fH g f P c fab){j:Nat}{l:List Pkt}(h:fab.iw[j]?=some l):
  g (P (j / 2) (if j % 2=0 then 0 else 2))=some (kU l c.out):=by
 have hj:j < 2*fab.l.length:=by
  have:=(zaf.1 h).1
  rwa [Fab.iw,nZ] at this
 obtain⟨l',a,a',h1,h2,h3⟩:=F.aeD hj;rw [h] at h1;cases h1;rw [Nq hj] at h2;simp only [jE,zbW,AV.ref.injEq,and_true] at h2;rw [h2.1];exact h3
section
variable {b:Nat}{H:aj}{g:Store}{f:Nat}{P:Nat->Nat->Nat}{c:Cfg}{fab:Fab}
def uH(P:Nat->Nat->Nat):Option (Nat × Int)->AV
 | some (j,k)=> .tup [.agg (jE P j),I k,B true]
 | none=> .tup [.agg [zP,zP],I 0,B false]
theorem YN(G:Good b H g)(F:fH g f P c fab)(hn:fab.l.length < 1000)(h0:fab.l.length≠0)(hr:∀l∈fab.iw,l.length < 1000)(at_:Int)(h64:In64 at_):
  cl 52 [.ref f 0 0,I at_] H=some (uH P (uG fab.iw 0 at_),H):=by
 have hpl:fab.iw.length=2*fab.l.length:=nZ _;have hpx:(gu P fab.l.length).length=(2*fab.l.length)*2:=by rw [gu,lT];omega
 let H0:=H.guard.new (.blk 0 115 [zP,zP]);have ep:=SH (G.guard.new (.blk 0 115 [zP,zP])) F hn h0;have xs:∀H':aj,aG H' (.vs (2*fab.l.length) 2 (gu P fab.l.length)) 2 (2*fab.l.length) (gu P fab.l.length):=λH'=> aG.vs hpx;let fnd:=uG fab.iw 0 at_;have key:∀k j,j+k=2*fab.l.length->∀(Hi:aj) (a:Int),H0.next<=Hi.next->Hi.base=H.next->(∀r,r < H0.next->Hi.get r=H0.get r)->In64 a->
   ((0<=a/\fnd=uG (fab.iw.drop j) j a)∨((a < 0∨9223372036854775808 - 1000 - 1000*(j:Int)<=a)/\fnd=none))->
   (I9 cl [I a,.ref H.next 0 0,.vs (2*fab.l.length) 2 (gu P fab.l.length),I (2*fab.l.length:Nat),I j] Hi).map Prod.fst=some (uH P fnd):=by
  intro k
  induction k with
  | zero=>
   intro j hj Hi a n1 b1 s1 ha hc;have h1:¬(j:Int) < (2*fab.l.length:Nat):=by omega
   have hf:fnd=none:=by
    rcases hc with⟨_,hc⟩ | ⟨_,hc⟩
    ·rw [hc,zaU (by omega)];rfl
    ·exact hc
   have g0:Hi.get H.next=.blk 0 115 [zP,zP]:=by rw [s1 _ (by show H.next < H.next+1;omega)];exact aK rfl
   have hb1:Hi.base<=H.next:=by omega
   have e0:bd 115 []=some (.agg [zP,zP]):=by simp -implicitDefEqProofs only [xq_,acE,gV,dM]
   have e1:=adg (H:=Hi) (r:=H.next) (off:=0) (n:=2) (v:=.agg [zP,zP]) g0 hb1 rfl rfl (by decide);rw [hf,Xq];have e2:=fQ (H:=Hi.put H.next (.blk 0 115 (setAt [zP,zP] 0 [zP,zP]))) (r:=H.next) (off:=0) (n:=2) (g:=0) (ty:=115) (xs:=[zP,zP]) DJ (by decide);have hs:setAt [zP,zP] 0 [zP,zP]=[zP,zP]:=rfl;simp only [dF,hs] at e1 e2;simp -implicitDefEqProofs only [Nat.reduceAdd,setAt,xq_,hq_,h1,e0,e1,e2,uH]
  | succ k ih=>
   intro j hj Hi a n1 b1 s1 ha hc;have h1:(j:Int) < (2*fab.l.length:Nat):=by omega
   have h6:(j:Int)+1=((j+1:Nat):Int):=by omega
   have h7:=wrap_i64 (a:=((j+1:Nat):Int)) (by omega) (by omega);have a1:=(xs Hi).ix (k:=.i64) (i:=(j:Int)) (by omega) h1;rw [zar] at a1;have a3:=(xs Hi).lda (i:=j) (by omega);rw [Nq (by omega)] at a3;obtain⟨l,hl⟩:∃l,fab.iw[j]?=some l:=⟨_,zab (by omega)⟩
   have p3:=YM F hl;have hlen:=hr l (zau hl);let H1:=Hi.new (.blk 0 115 (jE P j));have G1:Good b H1 g:=(((G.guard.new _).ext n1 s1).new _)
   have e3:=Yx G1 p3;have sb:Hi.base<=Hi.next:=by have:H.next+1<=Hi.next:=n1;omega
   have lt0:H.next < Hi.next:=n1
   have hd:fab.iw.drop j=l::fab.iw.drop (j+1):=by
    rw [zbn (by omega)];rw [zab (by omega)] at hl;rw [za3 hl]
   rw [Xq];simp only [H1,jE] at e3;by_cases hin:0<=a/\a < l.length
   ·have hf:fnd=some (j,a):=by
     rcases hc with⟨_,hc⟩ | ⟨hc,_⟩
     ·rw [hc,hd,uG,if_pos hin]
     ·omega
    have g0:Hi.get H.next=.blk 0 115 [zP,zP]:=by rw [s1 _ (by show H.next < H.next+1;omega)];exact aK rfl
    have hb1:Hi.base<=H.next:=by omega
    have e1:=adg (H:=Hi.new (.blk 0 115 (jE P j))) (r:=H.next) (off:=0) (n:=2) (v:=.agg (jE P j)) (by rw [aQ lt0];exact g0) (by rw [bNew];exact hb1) rfl rfl (by decide);have e2:=fQ (H:=(Hi.new (.blk 0 115 (jE P j))).put H.next (.blk 0 115 (setAt [zP,zP] 0 (jE P j)))) (r:=H.next) (off:=0) (n:=2) (g:=0) (ty:=115) (xs:=setAt [zP,zP] 0 (jE P j)) DJ (by simp [jE,setAt]);simp only [dF,jE] at e1 e2;have hs:∀x y:AV,setAt [zP,zP] 0 [x,y]=[x,y]:=λ_ _=> rfl;have h0:=hin.1;have h2:=hin.2;rw [hf];simp only [hs] at e1 e2;simp -implicitDefEqProofs only [Nat.reduceAdd,setAt,xq_,hq_,h1,a1,a3,jE,sb,h0,h2,e3,e1,e2,uH]
   ·have hw:∃a',IntKind.wrap .i64 (a - l.length)=a'/\In64 a'/\((0<=a'/\fnd=uG (fab.iw.drop (j+1)) (j+1) a')∨((a' < 0∨9223372036854775808 - 1000 - 1000*((j+1:Nat):Int)<=a')/\fnd=none)):=by
     rcases hc with⟨hc0,hc⟩ | ⟨hc,hn⟩
     ·refine⟨a - l.length,wrap_i64 (by omega) (by have:=ha.2;omega),⟨by omega,by have:=ha.2;omega⟩,.inl ⟨by omega,?_⟩⟩;rw [hc,hd,uG,if_neg hin]
     ·by_cases hlow:-9223372036854775808<=a - l.length
      ·refine⟨a - l.length,wrap_i64 hlow (by have:=ha.2;omega),⟨hlow,by have:=ha.2;omega⟩,.inr ⟨?_,hn⟩⟩;rcases hc with hc | hc
       ·left;omega
       ·right;omega
      ·refine⟨a - l.length+18446744073709551616,?_,⟨by have:=ha.1;omega,by omega⟩,.inr ⟨.inr (by have:=ha.1;omega),hn⟩⟩;have:a - l.length+18446744073709551616=IntKind.wrap .i64 (a - l.length):=by
        simp [IntKind.wrap,IntKind.signed,IntKind.bits];have:=ha.1;omega
       exact this.symm
    obtain⟨a',w1,w2,w3⟩:=hw;have r1:=ih (j+1) (by omega) (Hi.new (.blk 0 115 (jE P j))) a' (zbC n1) b1 (λr hr=> by rw [aQ (by omega)];exact s1 r hr) w2 w3;simp only [jE] at r1;by_cases h0:0<=a
    ·have h2:¬a < l.length:=by omega
     simp -implicitDefEqProofs only [Nat.reduceAdd,setAt,xq_,hq_,h1,a1,a3,jE,sb,h0,h2,e3,iT,w1,aZ,h6,h7,r1]
    ·simp -implicitDefEqProofs only [Nat.reduceAdd,setAt,xq_,hq_,h1,a1,a3,jE,sb,h0,e3,iT,w1,aZ,h6,h7,r1]
 have r1:=key (2*fab.l.length) 0 (by omega) H0 at_ (zac _) rfl (λ_ _=> rfl) h64 (by
  by_cases h:0<=at_
  ·exact .inl ⟨h,rfl⟩
  ·refine .inr ⟨.inl (by omega),?_⟩;cases hf:uG fab.iw 0 at_ with
   | none=> exact hf
   | some r=>
    obtain⟨j,k⟩:=r;obtain⟨_,l,_,_,_,h5,_⟩:=qC hf;omega)
 have hz:∀Hz,aV Hz H.next 9 (uH P fnd)=some (uH P fnd):=by
  intro Hz;cases hf:fnd with
  | none=> exact rD (λx hx=> by
    simp only [zam,zaI,or_false] at hx;rcases hx with rfl | rfl | rfl
    ·exact kD (λx hx=> by
      simp only [zam,zaI,or_false] at hx;rcases hx with rfl | rfl <;> exact dW)
    ·exact dW
    ·exact dW) Hz _
  | some r=>
   obtain⟨j,k⟩:=r;obtain⟨_,l,hl,_⟩:=qC hf;rw [Nat.sub_zero] at hl;have hj:j / 2 < fab.l.length:=by
    have:=(zaf.1 hl).1;omega
   have l1:=F.lt G (i:=j / 2) (s:=if j % 2=0 then 0 else 2) hj (by split <;> omega);have l2:=F.lt G (i:=j / 2) (s:=if j % 2=0 then 1 else 3) hj (by split <;> omega);refine FY λx hx=> ?_;simp only [zam,zaI,or_false] at hx;rcases hx with rfl | rfl | rfl
   ·refine FX λx hx=> ?_;simp only [jE,zam,zaI,or_false] at hx;rcases hx with rfl | rfl
    ·rw [aV];exact if_pos l1
    ·rw [aV];exact if_pos l2
   ·exact fJ
   ·exact fJ
 cases hs:Uu cl (.ref f 0 0) (I at_) H.guard with
 | none=>
  exfalso;have e2:=(xs H0).lnS;simp only [H0] at ep e2 r1;have:(Uu cl (.ref f 0 0) (I at_) H.guard).map Prod.fst=some (uH P fnd):=by
   simp -implicitDefEqProofs only [xq_,Uu,ep,e2];exact r1
  rw [hs] at this;cases this
 | some r=>
  have e2:=(xs H0).lnS;simp only [H0] at ep e2 r1;have:(Uu cl (.ref f 0 0) (I at_) H.guard).map Prod.fst=some (uH P fnd):=by
   simp -implicitDefEqProofs only [xq_,Uu,ep,e2];exact r1
  rw [hs] at this;simp only [zah,zaa] at this;obtain⟨v,Hz⟩:=r;simp only at this;subst this;exact eu rfl rfl (an3 _ _ _ _ hs) (hz Hz)
def Fab.pkt(f:Fab)(at_:Int):Option Pkt:=if at_ < 0 then none else f.all[at_.toNat]?
theorem YO(G:Good b H g)(F:fH g f P c fab)(hn:fab.l.length < 1000)(h0:fab.l.length≠0)(hr:∀l∈fab.iw,l.length < 1000/\∀p∈l,p.data.length < 1000000000)(at_:Int)(h64:In64 at_):
  cl 22 [.ref f 0 0,I at_] H=some (fM (fab.pkt at_),H):=by
 have G1:=G.guard.new (.blk 0 70 [zI,zI,zI,zI,zI,zI,zI,zB,zN]);have e1:=YN G1 F hn h0 (λl hl=> (hr l hl).1) at_ h64;have hall:fab.iw.flatten=fab.all:=zJ fab.l;refine aW rfl rfl (anG _ _ _ _) ?_ (zy _);cases hf:uG fab.iw 0 at_ with
 | none=>
  rw [hf] at e1;have hp:fab.pkt at_=none:=by
   have:=zH hf;rw [hall] at this;unfold Fab.pkt;split
   ·rfl
   ·rw [zaG (by omega)]
  have zc:([zP,zP]:List AV).all AV.aH=true:=rfl;simp -implicitDefEqProofs only [Nat.reduceAdd,setAt,xq_,hq_,afE,e1,uH,zc,wF,gV,bZ,hp,fM,dN,za0,zaL,zal]
 | some r=>
  obtain⟨j,k⟩:=r;rw [hf] at e1;obtain⟨_,l,h2,h3,h4,h5,h6⟩:=qC hf;rw [Nat.sub_zero] at h2;have p3:=YM F h2;have hp:fab.pkt at_=l[k.toNat]?:=by
   unfold Fab.pkt;rw [if_neg (by omega),<-hall,h6]
  have e2:=λo=> Yf (G1.new o) p3 (hr l (zau h2)).1 (hr l (zau h2)).2 k;have hk:¬k < 0:=by omega
  have ha:¬at_ < 0:=by omega
  simp only [hk,if_false] at e2;rw [hp];obtain⟨p,hpp⟩:∃p,l[k.toNat]?=some p:=⟨_,zab (by omega)⟩
  rw [hpp] at e2 ⊢;simp -implicitDefEqProofs only [Nat.reduceAdd,setAt,xq_,hq_,afE,e1,uH,jE,ha,e2,fM,zay,zaM,zae]
end
theorem Own.ref {b:Nat}{H:aj}{x:AV}{m n:Nat}{l:List AV}(o:Own b H x m l)(hm:0 < m)(hl:l.length=n*m){j:Nat}(hj:j < n):
  ∃r gg off,(∀k:IntKind,ix m x (.s (.int k j)) H=some (.ref r gg off,H))/\(∀k,k < m->ld (.ref r gg (off+k)) H=(l[j*m+k]?).map λv=> (v,H))/\lda m (.ref r gg off) H=some (.agg ((l.drop (j*m)).take m),H):=by
 have hs:=o.is hm hl;have hjm:(j+1)*m<=n*m:=zaD _ (by omega);rw [zbs,zbd] at hjm;rcases o with⟨_,h0⟩ | ⟨r,gg,off,n',cap,ex,ty,all,rfl,k2,k3,k4,k5,k6,k7,k8⟩
 ·rw [h0] at hl;simp only [zat] at hl;omega
 have hn:n'=n:=hs.2.2.1;subst hn;have hcm:n'*m<=cap*m:=zaD _ k4;refine⟨r,gg,off+j*m,λk=> ?_,λk hk=> ?_,?_⟩
 ·have:=hs.ix (k:=k) (i:=(j:Int)) (by omega) (by omega);rw [zar] at this;exact this
 ·rw [dK k5,k8,zaA,if_pos (by omega),zaF,zb7]
 ·rw [fQ k5 (by omega),k8]
  congr 3
  rw [zce,zbE,zbU,zbg (by omega)]
theorem Own.name {b:Nat}{H:aj}{m:Nat}{x:AV}{l:List AV}(c:Own b H x m l){r:Nat}(h:nameOf x=some r):b<=r/\r < H.next:=by
 rcases c with⟨rfl,_⟩ | ⟨r',g,off,n',cap,ex,ty,all,rfl,k2,k3,_⟩
 ·cases h
 ·simp only [nameOf,zaa] at h;omega
theorem JE {H1:aj}{n d m k:Nat}{x:AV}{cells:List AV}(c:Own n H1 x m cells)(hm:0 < m)(hl:cells.length=k*m)(hz:∀y∈cells,aV H1 n d y=some y):∃y,aV H1 n (d+1) x=some y/\∀H':aj,aG H' y m k cells:=by
 by_cases hx:x=zN
 ·subst hx;have hs:=c.is hm hl;have hk:k=0:=hs.2.2.2;have hc:cells=[]:=zan (by rw [hl,hk,zba]);subst hk;subst hc;exact⟨zN,fJ,λH'=> aG.nil⟩
 ·have hs:=c.is hm hl;obtain⟨c1,c2⟩:=hs.sK;rcases c with⟨h,_⟩ | ⟨r,g,off,n',cap,ex,ty,all,rfl,k2,k3,k4,k5,k6,k7,rfl⟩
  ·exact absurd h hx
  ·have hn:n'=k:=hs.2.2.1;subst hn;exact⟨.vs n' m _,gZ k2 c2 (dZ _ hz),λH'=> aG.vs hl⟩
section
variable {b:Nat}{H:aj}{g:Store}{q f:Nat}{N:Nat->Nat->Nat}{m:eX}
structure eX.fine(m:eX):Prop where
 n:m.nodes.length < 1000
 fab:m.fab.length=m.nodes.length
 agf:∀p∈m.fab,p.rq.length < 1000/\p.an.length < 1000/\p.rin.length < 1000/\p.ain.length < 1000
 ops:∀n∈m.nodes,n.ops.length < 1000/\n.values.length < 1000
end
structure Node.fine(n:Node):Prop where
 ops:n.proc.ops.length < 1000
 values:n.proc.values.length < 1000
 deal:n.deal.data.length < 1000000000
 cache:n.cache.l.length < 1000
 ents:∀e∈n.cache.l,e.data.length < 1000000000
 rows:∀e∈n.home.rows,e.2.data.length < 1000000000
structure dD.fine(n:dD):Prop where
 rows:n.homes.rows.length < 1000
 owner:n.homes.turns.owner.length < 1000000
 wait:n.homes.turns.wait.length < 1000000
theorem UJ {l:List Ent}(h:l.Pairwise λa b=> a.line < b.line){a b:Ent}(ha:a∈l)(hb:b∈l)(e:a.line=b.line):a=b:=by
 induction h with
 | nil=> cases ha
 | cons h1 _ ih=>
  rcases zam.1 ha with ha1 | ha1
  ·rcases zam.1 hb with hb1 | hb1
   ·rw [ha1,hb1]
   ·have:=h1 b hb1;rw [ha1] at e;omega
  ·rcases zam.1 hb with hb1 | hb1
   ·have:=h1 a ha1;rw [hb1] at e;omega
   ·exact ih ha1 hb1
theorem aiv.find {c:Cfg}{me:Int}{n:Node}{r:dD}(S:aiv c me n r){e:Ent}(he:e∈r.cache.l):n.cache.find e.line=some e:=by
 unfold Cache.find;cases hf:n.cache.l.find? λx=> decide (x.line=e.line) with
 | none=>
  have:=zbR.1 hf e (S.perm.mem_iff.2 he);simp at this
 | some x=>
  have h1:=List.find?_some hf;have h2:=za4 hf;simp only [decide_eq_true_eq] at h1;rw [UJ S.sorted (S.perm.mem_iff.1 h2) he h1]
theorem Nr {α β:Type}{f:α->Int}{g:β->Int}:∀{l:List α} {l':List β},l.length=l'.length->(∀(i:Nat) a b,l[i]?=some a->l'[i]?=some b->f a=g b)->(l.map f).sum=(l'.map g).sum
 | [],[],_,_=> rfl
 | a::l,b::l',h,hf=> by
  simp only [zaC,zck];rw [hf 0 a b rfl rfl,Nr (by simpa using h) λi a b ha hb=> hf (i+1) a b (by simpa using ha) (by simpa using hb)]
 | [],_::_,h,_=> by simp at h
 | _::_,[],h,_=> by simp at h
theorem Sim.left {m:fK}{r:eX}(S:Sim m r):r.left=m.left:=by
 unfold eX.left fK.left;refine Nr S.len λi a b ha hb=> ?_;have:=S.node i b a hb ha;simp only [Proc.left,this.ops,this.values]
theorem agt {f:Fab}{i:Nat}{p:Port}(h:f.l[i]?=some p):f.port i=p:=by
 unfold Fab.port;rw [zar,zax,h];rfl
theorem UK {f:Fab}{i:Nat}{p:Port}(h:f.l[i]?=some p):f.waiting i true=p.rin.length/\f.waiting i false=p.ain.length:=by
 have hi:=(zaf.1 h).1;have:f.is i=true:=by simp only [Fab.is,zaj,decide_eq_true_eq];omega
 unfold Fab.waiting;simp only [this,if_true,agt h,Port.rH];exact⟨trivial,by simp⟩
theorem Sim.all {m:fK}{r:eX}(S:Sim m r):r.all=m.fab.all:=by
 unfold eX.all Fab.all;rw [S.fab]
theorem Sim.quiet {m:fK}{r:eX}(S:Sim m r)(hf:m.fab.l.length=m.nodes.length):r.quiet=m.quiet:=by
 unfold eX.quiet fK.quiet;have hb:∀i,i < m.nodes.length->r.busy i=m.busy i:=by
  intro i hi;obtain⟨n,hn⟩:∃n,m.nodes[i]?=some n:=⟨_,zab hi⟩
  obtain⟨rn,hr⟩:∃n,r.nodes[i]?=some n:=⟨_,zab (by rw [S.len];exact hi)⟩
  obtain⟨p,hp⟩:∃p,m.fab.l[i]?=some p:=⟨_,zab (by omega)⟩
  have hp':r.fab[i]?=some p:=by rw [S.fab,hp]
  have N:=S.node i n rn hn hr;obtain⟨w1,w2⟩:=UK hp;simp only [eX.busy,fK.busy,hn,hr,hp',w1,w2,N.begun,N.has];cases n.proc.begun <;> cases decide (n.deal.step=0) <;> simp <;> rw [Bool.eq_iff_iff] <;> simp <;> omega
 rw [S.all,S.len];have:(List.range m.nodes.length).all (λi=> !r.busy i)=(List.range m.nodes.length).all λi=> !m.busy i:=by
  rw [Bool.eq_iff_iff,zaZ,zaZ];constructor
  ·intro h i hi;rw [<-hb i (zaW.1 hi)];exact h i hi
  ·intro h i hi;rw [hb i (zaW.1 hi)];exact h i hi
 rw [this,Bool.and_comm];rfl
theorem Own.set1 {b:Nat}{H:aj}{x:AV}{n:Nat}{l:List AV}(c:Own b H x 1 l)(hb:H.base<=b)(hl:l.length=n){j:Nat}(hj:j < n):
  ∃p,(∀k:IntKind,ix 1 x (.s (.int k j)) H=some (p,H))/\ld p H=(l[j]?).map (λv=> (v,H))/\∀v,One v->∃H',st 1 p v H=some (aO,H')/\Own b H' x 1 (l.set j v)/\Step b H H'/\H'.next=H.next:=by
 obtain⟨r,gg,off,i1,i2,i3⟩:=c.ref (by decide) (by omega:l.length=n*1) hj;have i2:=i2 0 (by decide);rw [zbt,zbf,zbf] at i2;refine⟨_,i1,i2,λv hv=> ?_⟩;rcases c with⟨_,h0⟩ | ⟨r',gg',off',n',cap,ex,ty,all,rfl,k2,k3,k4,k5,k6,k7,rfl⟩
 ·rw [h0] at hl;simp at hl;omega
 have e:=i1 .i64;have hs:ix 1 (.sl r' gg' off' 1 n' cap ex) (.s (.int .i64 j)) H=some (.ref r' gg' (off'+j),H):=by
  have hcm:n'*1<=cap*1:=zaD _ k4;have hn:n'=n:=by rw [zao,zaK] at hl;omega
  have:=(Own.is (b:=b) (n:=n') (.inr ⟨r',gg',off',n',cap,ex,ty,all,rfl,k2,k3,k4,k5,k6,k7,rfl⟩) (by decide) (by rw [zao,zaK];omega)).ix (k:=.i64) (i:=(j:Int)) (by omega) (by omega);rw [zar] at this;rw [this];simp only [cZ,zbt]
 rw [hs] at e;cases e;have hn:n'=n:=by rw [zao,zaK] at hl;omega
 subst hn;refine⟨_,Ll hv k5 (by omega) (by omega),.inr ⟨r,gg,off',n',cap,ex,ty,all.set (off'+j) v,rfl,k2,k3,k4,by rw [get_put,if_pos rfl],by simpa using k6,O5 k7 hv.2 _,?_⟩,Step.put _ k2,rfl⟩
 apply za6
 intro p;rw [zaA,zaF];by_cases hp:p < n'*1
 ·rw [if_pos hp];by_cases hpj:p=j
  ·subst hpj;rw [zbj (by rw [zao,zaK];omega),zbj (by omega)]
  ·rw [zbx (λe=> hpj e.symm),zbx (by omega),zaA,if_pos hp,zaF]
 ·rw [if_neg hp,zaG (by rw [zbN,zao,zaK];omega)]
theorem agu(H:aj)(a b:Int):cl 134 [I a,I b] H=some (B (decide (a < b)),H):=by
 have e:∀a,cl 177 [I a] H=some (B false,H):=λa=> by
  refine aN rfl rfl (ak1 _ _ _ ?_);simp -implicitDefEqProofs only [xq_,aei,eq_self,zae]
 refine aN rfl rfl (akp _ _ _ _ ?_);simp -implicitDefEqProofs only [xq_,adN,e]
theorem set_mid {rp:List Int}{y x:Int}{suf:List Int}:(((rp.reverse++y::x::suf).map I).set (rp.length+1) (I y)).set rp.length (I x)=(rp.reverse++x::y::suf).map I:=by
 have h1:(rp.reverse.map I).length=rp.length:=by simp
 simp only [zbk,zaC];rw [List.set_append_right _ _ (by omega),h1,List.set_append_right _ _ (by omega),h1,Nat.sub_self,Nat.add_sub_cancel_left];rfl
theorem aeI {b:Nat}{t:AV}{n:Nat}{a2 i6:AV}:∀(rp:List Int) (x:Int) (suf:List Int) (H:aj),rp.length+1+suf.length=n->n < 1000000->H.base<=b->Own b H t 1 ((rp.reverse++x::suf).map I)->
  ∃H',BF cl [t,I 0,a2,i6,I rp.length] H=(bo (bi .add 3 i6 (I 1)) λv14=> rQ cl [t,I 0,a2,v14] H')/\Own b H' t 1 (((nT x rp).reverse++suf).map I)/\Step b H H'
 | [],x,suf,H,hn,hN,hb,c=> by
  refine⟨H,?_,by simpa [nT] using c,Step.refl _ _⟩;rw [Rz];simp -implicitDefEqProofs only [xq_,zat,Int.ofNat_zero,Int.lt_irrefl]
 | y::rp,x,suf,H,hn,hN,hb,c=> by
  simp only [zak] at hn;have hc:((y::rp).reverse++x::suf)=rp.reverse++y::x::suf:=by simp
  rw [hc] at c;have hlen:((rp.reverse++y::x::suf).map I).length=n:=by simp;omega
  obtain⟨p1,a1,a2',a3⟩:=c.set1 hb hlen (j:=rp.length+1) (by omega);obtain⟨p0,b1,b2,b3⟩:=c.set1 hb hlen (j:=rp.length) (by omega);have h1:((rp.reverse++y::x::suf).map I)[rp.length+1]?=some (I x):=by
   rw [zaB,zaY (by simp),List.length_reverse,Nat.add_sub_cancel_left];rfl
  have h0:((rp.reverse++y::x::suf).map I)[rp.length]?=some (I y):=by
   rw [zaB,zaY (by simp),List.length_reverse,Nat.sub_self];rfl
  rw [h1] at a2';rw [h0] at b2;have a1:=a1 .i64;have b1:=b1 .i64;have g1:(0:Int) < ((rp.length+1:Nat):Int):=by omega
  have g2:((rp.length+1:Nat):Int) - 1=(rp.length:Int):=by omega
  have g3:=wrap_i64 (a:=(rp.length:Int)) (by omega) (by omega);have e:=agu H x y;rw [Rz];simp only [zak];by_cases hxy:x < y
  ·obtain⟨H1,s1,s2,s3,s4⟩:=a3 (I y) bJ;obtain⟨q0,d1,d2,d3⟩:=s2.set1 (n:=n) (by rw [s3.base];exact hb) (by rw [zbN,hlen]) (j:=rp.length) (by omega);have d1:=d1 .i64;obtain⟨H2,u1,u2,u3,u4⟩:=d3 (I x) bJ;rw [set_mid] at u2;obtain⟨H',r1,r2,r3⟩:=aeI (b:=b) (t:=t) (n:=n) (a2:=a2) (i6:=i6) rp x (y::suf) H2 (by rw [zak];omega) hN (by rw [u3.base,s3.base];exact hb) u2;refine⟨H',?_,by simpa [nT,hxy] using r2,(s3.trans u3).trans r3⟩;simp -implicitDefEqProofs only [xq_,g1,a1,a2',iT,g2,g3,b1,b2,e,hxy,s1,d1,u1,r1]
  ·refine⟨H,?_,by simpa [nT,hxy] using c,Step.refl _ _⟩;simp -implicitDefEqProofs only [xq_,g1,a1,a2',iT,g2,g3,b1,b2,e,hxy]
theorem aeJ {b:Nat}{t:AV}{n:Nat}:∀(l rp:List Int) (H:aj),rp.length+l.length=n->n < 1000000->H.base<=b->Own b H t 1 ((rp.reverse++l).map I)->
  ∃H',rQ cl [t,I 0,I n,I rp.length] H=some (.tup [],H')/\Own b H' t 1 ((srt rp l).map I)/\Step b H H'
 | [],rp,H,hn,hN,hb,c=> by
  have h1:¬(rp.length:Int) < n:=by simp at hn;omega
  refine⟨H,?_,by simpa [srt] using c,Step.refl _ _⟩;rw [Jk];simp -implicitDefEqProofs only [xq_,h1]
 | x::l,rp,H,hn,hN,hb,c=> by
  simp only [zak] at hn;have h1:(rp.length:Int) < n:=by omega
  obtain⟨H1,a1,a2,a3⟩:=aeI (b:=b) (t:=t) (n:=n) (a2:=I n) (i6:=I rp.length) rp x l H (by omega) hN hb c;obtain⟨H',r1,r2,r3⟩:=aeJ (b:=b) (t:=t) (n:=n) l (nT x rp) H1 (by rw [F5];omega) hN (by rw [a3.base];exact hb) a2;rw [F5] at r1;refine⟨H',?_,r2,a3.trans r3⟩;have h6:(rp.length:Int)+1=((rp.length+1:Nat):Int):=by omega
  have h7:=wrap_i64 (a:=((rp.length+1:Nat):Int)) (by omega) (by omega);rw [Jk];simp -implicitDefEqProofs only [xq_,h1,a1,aZ,h6,h7,r1]
theorem bitsLen(H:aj)(n:Nat)(h:n<=12):∃v,cl 90 [.s (.int .u64 n)] H=some (I v,H):=by
 have key:∃v,cl 138 [.s (.int .u64 n)] H=some (I v,H):=by
  have:n=0∨n=1∨n=2∨n=3∨n=4∨n=5∨n=6∨n=7∨n=8∨n=9∨n=10∨n=11∨n=12:=by omega
  rcases this with rfl | rfl | rfl | rfl | rfl | rfl | rfl | rfl | rfl | rfl | rfl | rfl | rfl
  ·exact⟨0,aN rfl rfl (qp _ _ _ (by kernel_rfl))⟩
  ·exact⟨1,aN rfl rfl (qp _ _ _ (by kernel_rfl))⟩
  ·exact⟨2,aN rfl rfl (qp _ _ _ (by kernel_rfl))⟩
  ·exact⟨2,aN rfl rfl (qp _ _ _ (by kernel_rfl))⟩
  ·exact⟨3,aN rfl rfl (qp _ _ _ (by kernel_rfl))⟩
  ·exact⟨3,aN rfl rfl (qp _ _ _ (by kernel_rfl))⟩
  ·exact⟨3,aN rfl rfl (qp _ _ _ (by kernel_rfl))⟩
  ·exact⟨3,aN rfl rfl (qp _ _ _ (by kernel_rfl))⟩
  ·exact⟨4,aN rfl rfl (qp _ _ _ (by kernel_rfl))⟩
  ·exact⟨4,aN rfl rfl (qp _ _ _ (by kernel_rfl))⟩
  ·exact⟨4,aN rfl rfl (qp _ _ _ (by kernel_rfl))⟩
  ·exact⟨4,aN rfl rfl (qp _ _ _ (by kernel_rfl))⟩
  ·exact⟨4,aN rfl rfl (qp _ _ _ (by kernel_rfl))⟩
 obtain⟨v,e⟩:=key;refine⟨v,aN rfl rfl (aoC _ _ _ ?_)⟩;simp -implicitDefEqProofs only [xq_,ajC,e]
theorem agv {b:Nat}{t:AV}{l:List Int}{H:aj}(hl:l.length<=12)(hb:H.base<=b)(c:Own b H t 1 (l.map I)):∃H',cl 56 [t] H=some (.tup [],H')/\Own b H' t 1 ((srt [] l).map I)/\Step b H H':=by
 have e1:=(c.is (n:=l.length) (by decide) (by simp)).lnS;obtain⟨v,e2⟩:=bitsLen H l.length hl;have hw:IntKind.wrap .u64 (l.length:Int)=l.length:=by
  simp [IntKind.wrap,IntKind.signed,IntKind.bits];omega
 have e3:cv 3 176 (I l.length) H=some (.s (.int .u64 l.length),H):=by
  have:=aaB (k:=.i64) (n:=(l.length:Int)) (H:=H);rw [hw] at this;exact this
 have ins:∃H',cl 128 [t,I 0,I l.length] H=some (.tup [],H')/\Own b H' t 1 ((srt [] l).map I)/\Step b H H':=by
  cases l with
  | nil=>
   refine⟨H,aN rfl rfl (adM _ _ _ _ _ ?_),c,Step.refl _ _⟩;have w:IntKind.wrap .i64 1=1:=rfl;have r:rQ cl [t,I 0,I (0:Nat),I 1] H=some (.tup [],H):=by
    rw [Jk];have h1:¬(1:Int) < ((0:Nat):Int):=by omega
    simp -implicitDefEqProofs only [xq_,h1]
   simp -implicitDefEqProofs only [Int.reduceAdd,xq_,XO,aZ,w,zat,r]
  | cons x l=>
   obtain⟨H',r1,r2,r3⟩:=aeJ (b:=b) (t:=t) (n:=l.length+1) l [x] H (by simp;omega) (by simp at hl;omega) hb (by simpa using c);refine⟨H',aN rfl rfl (adM _ _ _ _ _ ?_),by simpa [srt,nT] using r2,r3⟩;have w:IntKind.wrap .i64 1=1:=rfl;have r1':rQ cl [t,I 0,I (l.length+1:Nat),I 1] H=some (.tup [],H'):=r1;simp -implicitDefEqProofs only [Int.reduceAdd,xq_,XO,aZ,w,zak,r1']
 obtain⟨H',r1,r2,r3⟩:=ins;have pdq:cl 89 [t,I 0,I l.length,I v] H=some (.tup [],H'):=by
  refine aN rfl rfl (aoB _ _ _ _ _ _ ?_);have r:Je cl [t,I 0,I l.length,I v,B true,B true] H=some (.tup [],H'):=by
   rw [afW];have w:=wrap_i64 (a:=(l.length:Int)) (by omega) (by omega);have h1:(l.length:Int)<=12:=by omega
   simp -implicitDefEqProofs only [xq_,iT,Int.sub_zero,w,h1,r1]
  simp -implicitDefEqProofs only [ajB,r]
 refine⟨H',aN rfl rfl (an6 _ _ _ ?_),r2,r3⟩;simp -implicitDefEqProofs only [xq_,ajh,e1,e3,e2,pdq]
section
variable {b:Nat}{H:aj}{g:Store}{q:Nat}
theorem SS(G:Good b H g){c:Cache}(h:g q=some (bC c))(hl:c.l.length<=12):∃x,cl 28 [.ref q 0 0] H=some (x,H)/\∀H':aj,aG H' x 1 c.l.length ((srt [] (c.l.map (·.line))).map I):=by
 obtain⟨t,ht,ct⟩:=G.guard.seq h (i:=0) rfl;have hs:=ct.is (n:=c.l.length) (by decide) (bf bP c.l);have e2:=hs.lnS;have key:∀k j,j+k=c.l.length->∀(Hi:aj) (o:AV),Own H.next Hi o 1 (((c.l.map (·.line)).take j).map I)->Step H.next H.guard Hi->
   ∃y Hz,IZ cl [o,t,I c.l.length,I j] Hi=some (y,Hz)/\Own H.next Hz y 1 ((srt [] (c.l.map (·.line))).map I):=by
  intro k
  induction k with
  | zero=>
   intro j hj Hi o O s;have h1:¬(j:Int) < c.l.length:=by omega
   rw [zas (by simp;omega)] at O;obtain⟨H',r1,r2,r3⟩:=agv (by simpa using hl) (by rw [s.base];exact zac _) O;refine⟨o,H',?_,r2⟩;rw [Xk];simp -implicitDefEqProofs only [xq_,h1,r1]
  | succ k ih=>
   intro j hj Hi o O s;have h1:(j:Int) < c.l.length:=by omega
   have h6:(j:Int)+1=((j+1:Nat):Int):=by omega
   have h7:=wrap_i64 (a:=((j+1:Nat):Int)) (by omega) (by omega);have sb:Hi.base=H.next:=s.base
   have sn:H.next<=Hi.next:=s.next
   have hbase:Hi.base<=Hi.next:=by omega
   obtain⟨e,he⟩:∃e,c.l[j]?=some e:=⟨_,zab (by omega)⟩
   have hsi:aG Hi t 6 c.l.length (c.l.flatMap Ent.av):=hs.gK s.next λr _ hr=> s.low r hr
   have s1:=hsi.ix (k:=.i64) (i:=(j:Int)) (by omega) h1;rw [zar] at s1;have s2:=iW bP hsi he;let o1:dR:=.blk 0 93 e.av;let o2:dR:=.blk 0 3 [I e.line];obtain⟨o',H1,t1,t2,t3⟩:=((O.new o1).new o2).step (n:=j) (k:=1) (e:=3) (by_:=8) (y:=.sl (Hi.next+1) 0 0 1 1 1 true) (new:=[I e.line]) (by simp only [nNew];omega) (by simp only [bNew];omega) (by decide) (by rw [zaE,zao,zaE];omega) (jv rfl) rfl (by unfold most;omega) (by unfold most;omega);have hg:(c.l.map (·.line))[j]?=some e.line:=by rw [zaB,he];rfl
   have O':Own H.next H1 o' 1 (((c.l.map (·.line)).take (j+1)).map I):=by
    rw [zb6,hg,zbk];exact t2
   obtain⟨y,Hz,r1,r2⟩:=ih (j+1) (by omega) H1 o' O' ((s.trans ((Step.new o1 (by omega)).trans (Step.new o2 (by simp only [nNew];omega)))).trans t3);refine⟨y,Hz,?_,r2⟩;rw [Xk];have l2:e.av[2]?=some (I e.line):=rfl;have eb:∀H,bs 22 1 [(0,I e.line)] H=some (.sl H.next 0 0 1 1 1 true,H.new (.blk 0 3 [I e.line])):=λH=> (Dx (by decide)).trans (jm rfl rfl rfl);simp only [o1,o2] at t1;simp -implicitDefEqProofs only [Nat.reduceAdd,setAt,xq_,hq_,h1,s1,s2,hbase,l2,eb,t1,aZ,h6,h7,r1]
 obtain⟨y,Hz,r1,r2⟩:=key c.l.length 0 (by omega) H.guard zN (.inl ⟨rfl,by simp⟩) (Step.refl _ _);have hlen:((srt [] (c.l.map (·.line))).map I).length=c.l.length*1:=by
  have:=(oO (c.l.map (·.line)) [] List.Pairwise.nil).1.length_eq
  simpa using this
 obtain⟨x,f1,f2⟩:=JE (d:=8) r2 (by decide) hlen λz hz=> oZ _ z hz _ _;refine⟨x,eu rfl rfl (anK _ _ _ (r:=(y,Hz)) ?_) f1,f2⟩;simp -implicitDefEqProofs only [xq_,ai0,ht,e2];exact r1
end
end
end Go.Proofs.YthmoogcacpmjiaaGreat
