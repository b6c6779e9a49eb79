/-
  Own work: an interpreter over named blocks, its soundness, and what the functions of this seat compute (part 5 of 11).
  Conditions: those of the statement alone.
-/
import Derived.Test.YtgplhpgkompkmaaGreatHd
set_option linter.all false
set_option linter.unusedSectionVars false
set_option linter.unusedVariables false
set_option linter.unusedSimpArgs false
namespace Go.Proofs.YtgplhpgkompkmaaGreat
noncomputable section
def nV(a:Nat->Nat):List AV:=[.ref (a 0) 0 0,.ref (a 1) 0 0,.ref (a 2) 0 0,.ref (a 3) 0 0]
def ac9(P:Nat->Nat->Nat)(n:Nat):List Cell:=[.seq 4 ((List.range n).flatMap λi=> nV (P i))]
def vM(g:bD)(a:Nat->Nat)(c:Cfg)(p:Port):Prop:=
 g (a 0)=some (mZ p.rq c.out)/\g (a 1)=some (mZ p.rin c.inn)/\g (a 2)=some (mZ p.an c.out)/\g (a 3)=some (mZ p.ain 1)
def SS(P:Nat->Nat->Nat)(n:Nat):Prop:=∀i j s t,i < n->j < n->s < 4->t < 4->P i s=P j t->i=j/\s=t
def gY(g:bD)(f:Nat)(P:Nat->Nat->Nat)(c:Cfg)(fab:Fab):Prop:=
 g f=some (ac9 P fab.l.length)/\(∀i p,fab.l[i]?=some p->vM g (P i) c p)/\fab.out=c.out/\fab.inn=c.inn
def apB(x0 x1 x2 x3:Nat):Nat->Nat
 | 0=> x0
 | 1=> x1
 | 2=> x2
 | _=> x3
theorem JR {P P':Nat->Nat->Nat}:∀n,(∀i,i < n->P' i=P i)->(List.range n).flatMap (λi=> nV (P' i))=(List.range n).flatMap λi=> nV (P i)
 | 0,_=> rfl
 | n+1,h=> by
  rw [zck,zbT,zbT,JR n λi hi=> h i (by omega)];simp only [zaE,List.flatMap_nil,h n (by omega)]
theorem oJ(P:Nat->Nat->Nat)(n:Nat):((List.range n).flatMap λi=> nV (P i)).length=n*4:=by
 rw [dR (m:=4) (λ_=> rfl),zc9]
theorem vM.ext {g g':bD}{a:Nat->Nat}{c:Cfg}{p:Port}(h:vM g a c p)(hg:∀s,s < 4->g' (a s)=g (a s)):vM g' a c p:=by
 obtain⟨h0,h1,h2,h3⟩:=h;exact⟨by rw [hg 0 (by omega),h0],by rw [hg 1 (by omega),h1],by rw [hg 2 (by omega),h2],by rw [hg 3 (by omega),h3]⟩
theorem vM.some {g:bD}{a:Nat->Nat}{c:Cfg}{p:Port}(h:vM g a c p){s:Nat}(hs:s < 4):∃l r,g (a s)=some (mZ l r):=by
 obtain⟨h0,h1,h2,h3⟩:=h
 match s,hs with
 | 0,_=> exact⟨_,_,h0⟩
 | 1,_=> exact⟨_,_,h1⟩
 | 2,_=> exact⟨_,_,h2⟩
 | 3,_=> exact⟨_,_,h3⟩
theorem PZ(H:ah)(hb:H.base<=H.next)(c:Cfg)(h:c.ok=true):∃H' f P g',cl 61 [.agg c.av] H=some (.ref f 0 0,H')/\Made H H' g'/\gY g' f P c (.new c)/\SS P c.aG.toNat:=by
 have Bd:=Ak h;let H1:=H.new (.blk 0 31 c.av);let H2:=H1.new (.blk 0 145 [zN]);let f:=H.next+1
 have M0:Made H1 H2 (upd Aj f (ac9 (λ_ _=> 0) 0)):=oI rfl rfl λi c x hc hx=> by
  match i with
  | 0=> right;cases hc;cases hx;exact⟨rfl,4,rfl⟩
  | i+1=> cases hc
 have l0:c.av[0]?=some (I c.aG):=rfl;have l5:c.av[5]?=some (I c.out):=rfl;have l6:c.av[6]?=some (I c.inn):=rfl;have key:∀k i,i+k=c.aG.toNat->∀Hi gi P,Made H1 Hi gi->gi f=some (ac9 P i)->(∀j,j < i->vM gi (P j) c .zero)->SS P i->
   ∃H' g' P',LM cl [.ref H.next 0 0,.ref f 0 0,I c.aG,I i] Hi=some (.ref f 0 0,H')/\Made H1 H' g'/\g' f=some (ac9 P' c.aG.toNat)/\(∀j,j < c.aG.toNat->vM g' (P' j) c .zero)/\SS P' c.aG.toNat:=by
  intro k
  induction k with
  | zero=>
   intro i hi Hi gi P M hf hp hj;have h1:¬(i:Int) < c.aG:=by omega
   have hi':c.aG.toNat=i:=by omega
   rw [Zl];refine⟨Hi,gi,P,?_,M,by rw [hi'];exact hf,by rw [hi'];exact hp,by rw [hi'];exact hj⟩;simp only [xq_,h1]
  | succ k ih=>
   intro i hi Hi gi P M hf hp hj;have h1:(i:Int) < c.aG:=by omega
   have h6:(i:Int)+1=((i+1:Nat):Int):=by omega
   have h7:=wrap_i64 (a:=((i+1:Nat):Int)) (by have:=Bd.aG;omega) (by have:=Bd.aG;omega);have lt1:H.next < H1.next:=by simp only [H1,fA];omega
   have bx:∀H':ah,(∀r,r < H1.next->H'.get r=H1.get r)->H'.get H.next=.blk 0 31 c.av:=λH' hs=> by rw [hs _ lt1];exact bF rfl
   have ld5:∀H':ah,(∀r,r < H1.next->H'.get r=H1.get r)->ld (.ref H.next 0 5) H'=some (I c.out,H'):=λH' hs=> by rw [kS (bx H' hs),l5];rfl
   have ld6:∀H':ah,(∀r,r < H1.next->H'.get r=H1.get r)->ld (.ref H.next 0 6) H'=some (I c.inn,H'):=λH' hs=> by rw [kS (bx H' hs),l6];rfl
   obtain⟨x,hx,cx⟩:=M.good.seq hf (i:=0) rfl;obtain⟨Ha',q1,a1,Ma⟩:=aam Hi.guard c.out (by have:=Bd.out;omega);obtain⟨Ha,a1,Ma⟩:=drawn a1 Ma;have Na:=M.add Ma;obtain⟨Hb',q2,a2,Mb⟩:=Vm Ha.guard c.inn (by have:=Bd.inn;omega);obtain⟨Hb,a2,Mb⟩:=drawn a2 Mb;have Nb:=Na.add Mb;obtain⟨Hc',q3,a3,Mc⟩:=aam Hb.guard c.out (by have:=Bd.out;omega);obtain⟨Hc,a3,Mc⟩:=drawn a3 Mc;have Nc:=Nb.add Mc;obtain⟨Hd',q4,a4,Md⟩:=Vm Hc.guard 1 (by omega);obtain⟨Hd,a4,Md⟩:=drawn a4 Md;have Nd:=Nc.add Md;have o1:=Ma.lt aU;have o2:=Mb.lt aU;have o3:=Mc.lt aU;have o4:=Md.lt aU;have hfl:=M.good.lt hf;have cd:Cur H1.next Hd f 0 x 4 _:=(((cx.ext Ma.next Ma.same).ext Mb.next Mb.same).ext Mc.next Mc.same).ext Md.next Md.same
   let a:=apB q1 q2 q3 q4;let o:fU:=.blk 0 142 (nV a);let g4:=upd (upd (upd (upd gi q1 (mZ [] c.out)) q2 (mZ [] c.inn)) q3 (mZ [] c.out)) q4 (mZ [] 1);have low:∀q,q < Hi.next->g4 q=gi q:=λq hq=> by
    simp only [g4];rw [aZ (by omega),aZ (by omega),aZ (by omega),aZ (by omega)]
   have hf4:g4 f=some (ac9 P i):=by rw [low f hfl,hf]
   obtain⟨x',He,Hf,t1,t2,t3,t4⟩:=(Nd.good.new o).append (e:=142) (by_:=32) (by rw [jy,Nd.base];simp only [H1,jy,fA];omega) hf4 (i:=0) rfl (by decide) (oJ P i) (cd.new o) (ku (ex:=true) (n:=1) (m:=4) (l:=nV a) rfl) rfl (by have:=Bd.aG;unfold most;omega) (by have:=Bd.aG;unfold most;omega);let P':Nat->Nat->Nat:=λj=> if j=i then a else P j
   have hP:∀j,j < i->P' j=P j:=λj hj=> by simp only [P'];rw [if_neg (by omega)]
   have hPi:P' i=a:=by simp only [P',if_true]
   have Mf:Made H1 Hf (upd g4 f (ac9 P' (i+1))):=by
    refine((Nd.new o).step t3 t4).as ?_
    congr 1
    simp only [ac9,zb2];rw [zck,zbT,JR i hP,zaE,List.flatMap_nil,zbl,hPi]
   have hq:∀s,s < 4->Hi.next<=a s:=λs hs=> by
    match s,hs with
    | 0,_=> exact o1.1
    | 1,_=> exact zau Ma.next o2.1
    | 2,_=> exact zau Ma.next (zau Mb.next o3.1)
    | 3,_=> exact zau Ma.next (zau Mb.next (zau Mc.next o4.1))
   have hpl:∀j,j < i->∀s,s < 4->P j s < Hi.next:=λj hji s hs=> by
    obtain⟨l,r,hg⟩:=(hp j hji).some hs;exact M.good.lt hg
   obtain⟨H',g',P'',r1,r2⟩:=ih (i+1) (by omega) Hf _ P' Mf aU (λj hj1=> by
    by_cases hji:j=i
    ·subst hji;rw [hPi];have h4:∀s,s < 4->a s≠f:=λs hs=> by have:=hq s hs;omega
     refine vM.ext (g:=g4) ⟨?_,?_,?_,?_⟩ λs hs=> aZ (h4 s hs)
     ·show g4 q1=_;simp only [g4];rw [aZ (by omega),aZ (by omega),aZ (by omega),aU];rfl
     ·show g4 q2=_;simp only [g4];rw [aZ (by omega),aZ (by omega),aU];rfl
     ·show g4 q3=_;simp only [g4];rw [aZ (by omega),aU];rfl
     ·show g4 q4=_;simp only [g4];rw [aU];rfl
    ·rw [hP j (by omega)];refine(hp j (by omega)).ext λs hs=> ?_;have hlt:=hpl j (by omega) s hs;obtain⟨l,r,hg⟩:=(hp j (by omega)).some hs;have:P j s≠f:=λe=> by rw [e,hf] at hg;cases hg
     rw [aZ this,low _ hlt]) (λj k s t hj1 hk1 hs ht e=> by
    by_cases hji:j=i
    ·by_cases hki:k=i
     ·subst hji;subst hki;refine⟨rfl,?_⟩;rw [hPi] at e
      match s,hs,t,ht with
      | 0,_,0,_ | 1,_,1,_ | 2,_,2,_ | 3,_,3,_=> rfl
      | 0,_,1,_ | 0,_,2,_ | 0,_,3,_ | 1,_,0,_ | 1,_,2,_ | 1,_,3,_ | 2,_,0,_ | 2,_,1,_ | 2,_,3,_ | 3,_,0,_ | 3,_,1,_ | 3,_,2,_=> simp only [a,apB] at e;omega
     ·subst hji;rw [hPi,hP k (by omega)] at e;have:=hq s hs;have:=hpl k (by omega) t ht;omega
    ·by_cases hki:k=i
     ·subst hki;rw [hPi,hP j (by omega)] at e;have:=hq t ht;have:=hpl j (by omega) s hs;omega
     ·rw [hP j (by omega),hP k (by omega)] at e;exact hj j k s t (by omega) (by omega) hs ht e)
   refine⟨H',g',P'',?_,r2⟩;rw [Zl];have s1:=ld5 Hi M.same;have s2:=ld6 Ha Na.same;have s3:=ld5 Hb Nb.same;have ep:∀r r',bd 121 [(0,.ref r 0 0),(1,.ref r' 0 0)]=some (.agg [.ref r 0 0,.ref r' 0 0]):=λr r'=> by
    simp only [xq_,aer,jX,gI,aep];rfl
   have eq:∀r r' r2 r3,bd 142 [(0,.agg [.ref r 0 0,.ref r' 0 0]),(1,.agg [.ref r2 0 0,.ref r3 0 0])]=some (.agg [.ref r 0 0,.ref r' 0 0,.ref r2 0 0,.ref r3 0 0]):=λr r' r2 r3=> by
    simp only [xq_,ajN,jX,gI,aev];rfl
   have eb:=jS (e:=142) (m:=4) (z:=[zP,zP,zP,zP]) (v:=.agg [.ref q1 0 0,.ref q2 0 0,.ref q3 0 0,.ref q4 0 0]) (H:=Hd) rfl rfl rfl;simp only [fJ] at eb;simp only [o,a,nV,apB,f] at t1 t2 r1 hx;simp only [Nat.reduceLeDiff,xq_,hq_,h1,f,hx,s1,s2,s3,a1,a2,a3,a4,ep,eq,ajA,zbo,eb,t1,t2,dF,h6,h7,r1]
 obtain⟨H',g',P,r1,r2,r3,r4,r5⟩:=key c.aG.toNat 0 (by omega) H2 _ _ M0 aU (λj hj=> by omega) (λi j s t hi=> by omega);refine⟨H',f,P,g',bg rfl rfl (ao8 _ _ _ (r:=(_,H')) ?_),r2.DI,⟨?_,?_,rfl,rfl⟩,r5⟩
 ·have e0:bd 145 []=some (.agg [zN]):=by
   simp only [xq_,ajP,jX,gI]
  have a0:([zN]:List AV).all AV.aX=true:=rfl;simp only [Nat.reduceLT,xq_,hq_,akK,aF (iF c),e0,aF a0,l0];exact r1
 ·rw [r3];simp only [Fab.new,zb4]
 ·intro i p hp;simp only [Fab.new] at hp;rw [zc5] at hp;split at hp
  ·cases hp;exact r4 i (by omega)
  ·cases hp
structure Adr where
 je:Nat
 fab:Nat
 trace:Nat
 N:Nat->Nat->Nat
 P:Nat->Nat->Nat
def Ap(A:Adr)(c:Cfg):List AV:=[.ref A.fab 0 0,.ref A.trace 0 0]++c.av
def pJ(N:Nat->Nat->Nat)(n:Nat):List AV:=(List.range n).map λi=> .ref (N i 0) 0 0
def oO(A:Adr)(c:Cfg)(n:Nat):List Cell:=(Ap A c).map .av++[.seq 1 (pJ A.N n)]
def ai5(N:Nat->Nat->Nat)(n:Nat):Prop:=∀i j s t,i < n->j < n->s < 6->t < 6->N i s=N j t->i=j/\s=t
structure iM(g:bD)(A:Adr)(m:dZ):Prop where
 je:g A.je=some (oO A m.c m.aG.length)
 trace:g A.trace=some (lY m.trace)
 fab:gY g A.fab A.P m.c m.fab
 bG:∀(i:Nat) n,m.aG[i]?=some n->qC g (A.N i) m.c i n
 SV:SS A.P m.fab.l.length
 am7:ai5 A.N m.aG.length
 tf:A.trace≠A.fab
theorem qC.some {g:bD}{a:Nat->Nat}{c:Cfg}{me:Int}{n:Node}(h:qC g a c me n){s:Nat}(hs:s < 6):∃l,g (a s)=some l:=by
 obtain⟨h0,h1,h2,h3,h4,h5⟩:=h
 match s,hs with
 | 0,_=> exact⟨_,h0⟩
 | 1,_=> exact⟨_,h1⟩
 | 2,_=> exact⟨_,h2⟩
 | 3,_=> exact⟨_,h3⟩
 | 4,_=> exact⟨_,h4⟩
 | 5,_=> exact⟨_,h5⟩
theorem qC.ext {g g':bD}{a:Nat->Nat}{c:Cfg}{me:Int}{n:Node}(h:qC g a c me n)(hg:∀s,s < 6->g' (a s)=g (a s)):qC g' a c me n:=by
 obtain⟨h0,h1,h2,h3,h4,h5⟩:=h;exact⟨by rw [hg 0 (by omega),h0],by rw [hg 1 (by omega),h1],by rw [hg 2 (by omega),h2],by rw [hg 3 (by omega),h3],by rw [hg 4 (by omega),h4],by rw [hg 5 (by omega),h5]⟩
theorem qC.inj {g:bD}{a:Nat->Nat}{c:Cfg}{me:Int}{n:Node}(h:qC g a c me n){s t:Nat}(hs:s < 6)(ht:t < 6)(e:a s=a t):s=t:=by
 obtain⟨h0,h1,h2,h3,h4,h5⟩:=h;have hh:(g (a s)).map List.length=(g (a t)).map List.length:=by rw [e]
 match s,hs,t,ht with
 | 0,_,0,_ | 1,_,1,_ | 2,_,2,_ | 3,_,3,_ | 4,_,4,_ | 5,_,5,_=> rfl
 | 0,_,1,_ | 0,_,2,_ | 0,_,3,_ | 0,_,4,_ | 0,_,5,_ | 1,_,0,_ | 1,_,2,_ | 1,_,3,_ | 1,_,4,_ | 1,_,5,_ | 2,_,0,_ | 2,_,1,_ | 2,_,3,_ | 2,_,4,_ | 2,_,5,_ | 3,_,0,_ | 3,_,1,_ | 3,_,2,_ | 3,_,4,_ | 3,_,5,_ | 4,_,0,_ | 4,_,1,_ | 4,_,2,_ | 4,_,3,_ | 4,_,5,_ | 5,_,0,_ | 5,_,1,_ | 5,_,2,_ | 5,_,3,_ | 5,_,4,_=>
  simp [h0,h1,h2,h3,h4,h5,vS,II,Cfg.av,bJ.av,dn,pU,Cj,DJ,iC] at hh
theorem GX {N N':Nat->Nat->Nat}{n:Nat}(h:∀i,i < n->N' i=N i):pJ N' (n+1)=pJ N n++[.ref (N' n 0) 0 0]:=by
 unfold pJ;rw [zck,zbj]
 congr 1
 refine zbt λi hi=> ?_;rw [h i (zaX.1 hi)]
theorem ES {c:Cfg}{ps:List (List Opn)}(h:c.xY ps=true):(ps.length:Int)=c.aG/\∀l∈ps,l.length<=24:=by
 simp only [Cfg.xY,zaf,decide_eq_true_eq,za2] at h;exact⟨h.2,λl hl=> (h.1 l hl).1⟩
theorem WQ(H:ah)(hb:H.base<=H.next)(c:Cfg)(h:c.ok=true){x:AV}{ps:List (List Opn)}(hx:WO H x ps)(hp:c.xY ps=true):∃H' A g',cl 20 [.agg c.av,x] H=some (.tup [.ref A.je 0 0,I 0],H')/\Made H H' g'/\iM g' A (.new c ps):=by
 have Bd:=Ak h;obtain⟨hp1,hp2⟩:=ES hp;have hn:=Bd.aG;let H1:=H.new (.blk 0 31 c.av);have lt1:H.next < H1.next:=by simp only [H1,fA];omega
 have g1:H1.get H.next=.blk 0 31 c.av:=bF rfl
 have b1:=pq g1;have e1:=ac3 H1 c h;have e2:=am5 H1 c h (hx.jZ (H':=H1) (by omega) λr hr=> cZ hr) (by omega) λl hl=> by have:=hp2 l hl;omega
 rw [hp] at e2;have e3:=jL H1 c.init (by have:=Bd.init;have:=Bd.tq;omega);obtain⟨H2',f,P,gf,e4,M1,F1,J1⟩:=PZ H1.guard (zac _) c h;obtain⟨H2,e4,M1⟩:=drawn e4 M1;obtain⟨H3',t,e5,M2⟩:=Vo H2.guard;obtain⟨H3,e5,M2⟩:=drawn e5 M2;let A0:Adr:=⟨H3.next,f,t,λ_ _=> 0,P⟩
 have bx:∀H':ah,(∀r,r < H1.next->H'.get r=H1.get r)->H'.get H.next=.blk 0 31 c.av:=λH' hs=> by rw [hs _ lt1,g1]
 have M12:=M1.add M2;have b3:=pq (bx H3 M12.same);have b2:=pq (bx H2 M1.same);let xs:=Ap A0 c++[zN]
 have hall:xs.all AV.aX=true:=by simp only [xs,Ap,zbL,iF];rfl
 have M3:Made H3 (H3.new (.blk 0 53 xs)) (upd Aj H3.next (oO A0 c 0)):=by
  refine oI hall (by simp [xs,oO]) λi cc y hc hy=> ?_;simp only [oO] at hc;by_cases hi:i < (Ap A0 c).length
  ·left;rw [zaN (by rw [zaD];exact hi),zaR] at hc;rw [zaN hi] at hy;rw [hy] at hc;exact(zaZ hc).symm
  ·right;have hlen:(Ap A0 c).length=10:=rfl;have:i=10:=by
    have:=(zai.1 hy).1;simp only [xs,zao,zam,zan] at this;omega
   subst this;cases hc;cases hy;exact⟨rfl,1,rfl⟩
 have M0:=M12.add M3;let g0:=upd (upd gf t (lY [])) H3.next (oO A0 c 0)
 let K:=H3.next
 have key:∀k i,i+k=ps.length->∀Hi gi N,Made H1 Hi gi->gi K=some (oO { A0 with N:=N } c i)->(∀q,q < K->gi q=g0 q)->(∀(j:Nat) l,j < i->ps[j]?=some l->qC gi (N j) c j (.new c j l))->ai5 N i->
   ∃H' g' N',Gy cl [.ref H.next 0 0,.ref K 0 0,x,I ps.length,I i] Hi=some (.tup [.ref K 0 0,I 0],H')/\Made H1 H' g'/\g' K=some (oO { A0 with N:=N' } c ps.length)/\(∀q,q < K->g' q=g0 q)/\(∀(j:Nat) l,j < ps.length->ps[j]?=some l->qC g' (N' j) c j (.new c j l))/\ai5 N' ps.length:=by
  intro k
  induction k with
  | zero=>
   intro i hi Hi gi N M hm hl hnd hj;have h1:¬(i:Int) < ps.length:=by omega
   have hi':ps.length=i:=by omega
   rw [LG];refine⟨Hi,gi,N,?_,M,by rw [hi'];exact hm,hl,by rw [hi'];exact hnd,by rw [hi'];exact hj⟩;simp only [xq_,h1]
  | succ k ih=>
   intro i hi Hi gi N M hm hlow hnd hj;have h1:(i:Int) < ps.length:=by omega
   have h6:(i:Int)+1=((i+1:Nat):Int):=by omega
   have h7:=wrap_i64 (a:=((i+1:Nat):Int)) (by omega) (by omega);have hxi:=hx.jZ (H':=Hi) (zau (Nat.le_of_lt lt1) M.next) λr hr=> by rw [M.same r (by omega)];exact cZ hr
   obtain⟨cells,x1,x2⟩:=hxi;have hcl:cells.length=ps.length:=by have:=x1.1;omega
   have s1:=x1.ix (k:=.i64) (i:=(i:Int)) (by omega) h1;rw [zat] at s1;have s2:=x1.ld (i:=i) (by omega);obtain⟨v,hv⟩:∃v,cells[i]?=some v:=⟨_,zab (by omega)⟩
   obtain⟨l,hl⟩:∃l,ps[i]?=some l:=⟨_,zab (by omega)⟩
   rw [hv] at s2;obtain⟨v1,v2⟩:=x2 i v l hv hl;have s4:=pq (bx Hi M.same);obtain⟨y,hy,cy⟩:=M.good.seq hm (i:=10) (m:=1) (l:=pJ N i) rfl;obtain⟨Ha',a,ga,a1,Ma,Ia⟩:=aaq Hi.guard c h i l (by have:=hp2 l (zaq hl);omega) v1.guard v2;obtain⟨Ha,a1,Ma⟩:=drawn a1 Ma;have Na:=M.trans Ma;let ga':=cup Hi.next gi ga
   have hK:=M.good.lt hm;have ah1:∀q,q < Hi.next->ga' q=gi q:=λq hq=> by simp only [ga',cup,hq,if_true]
   have hma:ga' K=some (oO { A0 with N:=N } c i):=by rw [ah1 K hK,hm]
   let o:fU:=.blk 0 64 [.ref (a 0) 0 0];have hnl:(pJ N i).length=i*1:=by simp [pJ]
   obtain⟨y',He,Hf,t1,t2,t3,t4⟩:=(Na.good.new o).append (e:=64) (by_:=8) (by rw [jy,Na.base];simp only [H1,jy,fA];omega) hma (i:=10) rfl (by decide) hnl ((cy.ext Ma.next Ma.same).new o) (ku (ex:=true) (n:=1) (m:=1) (l:=[.ref (a 0) 0 0]) rfl) rfl (by unfold most;omega) (by unfold most;omega);let N':Nat->Nat->Nat:=λj=> if j=i then a else N j
   have hN:∀j,j < i->N' j=N j:=λj hj=> by simp only [N'];rw [if_neg (by omega)]
   have hNi:N' i=a:=by simp only [N',if_true]
   have Mf:Made H1 Hf (upd ga' K (oO { A0 with N:=N' } c (i+1))):=by
    refine((Na.new o).step t3 t4).as ?_
    congr 1
    simp only [oO];rw [GX hN,hNi];rfl
   have hal:∀s,s < 6->Hi.next<=a s/\ga' (a s)=ga (a s):=λs hs=> by
    obtain⟨l,hg⟩:=Ia.some hs;have:=(Ma.lt hg).1;exact⟨this,by simp only [ga',cup];rw [if_neg (by omega)]⟩
   have hNl:∀j,j < i->∀s,s < 6->N j s < Hi.next:=λj hji s hs=> by
    obtain⟨lj,hlj⟩:∃l,ps[j]?=some l:=⟨_,zab (by omega)⟩
    obtain⟨l,hg⟩:=(hnd j lj hji hlj).some hs;exact M.good.lt hg
   obtain⟨H',g',N'',r1,r2⟩:=ih (i+1) (by omega) Hf _ N' Mf aU (λq hq=> by
    rw [aZ (by omega),ah1 q (by omega),hlow q hq]) (λj lj hj1 hlj=> by
    by_cases hji:j=i
    ·subst hji;rw [hl] at hlj;cases hlj;rw [hNi];exact Ia.ext λs hs=> by
      obtain⟨h1,h2⟩:=hal s hs;rw [aZ (by omega),h2]
    ·rw [hN j (by omega)];refine(hnd j lj (by omega) hlj).ext λs hs=> ?_;have hlt:=hNl j (by omega) s hs;have hne:N j s≠K:=λe=> by
      have I:=hnd j lj (by omega) hlj;obtain⟨l',hg⟩:=I.some hs;obtain⟨h0,h1,h2,h3,h4,h5⟩:=I;have hh:(gi (N j s)).map (λl=> l[10]?)=some (some (.seq 1 (pJ N i))):=by rw [e,hm];rfl
      match s,hs with
      | 0,_=> rw [h0] at hh;simp [vS,II,Cfg.av,bJ.av] at hh
      | 1,_=> rw [h1] at hh;simp [dn] at hh
      | 2,_=> rw [h2] at hh;simp [pU] at hh
      | 3,_=> rw [h3] at hh;simp [Cj,Cfg.av] at hh
      | 4,_=> rw [h4] at hh;simp [DJ,Cfg.av] at hh
      | 5,_=> rw [h5] at hh;simp [iC] at hh
     rw [aZ hne,ah1 _ hlt]) (λj k s t hj1 hk1 hs ht e=> by
    by_cases hji:j=i
    ·by_cases hki:k=i
     ·subst hji;subst hki;rw [hNi] at e;exact⟨rfl,Ia.inj hs ht e⟩
     ·subst hji;rw [hNi,hN k (by omega)] at e;have:=(hal s hs).1;have:=hNl k (by omega) t ht;omega
    ·by_cases hki:k=i
     ·subst hki;rw [hNi,hN j (by omega)] at e;have:=(hal t ht).1;have:=hNl j (by omega) s hs;omega
     ·rw [hN j (by omega),hN k (by omega)] at e;exact hj j k s t (by omega) (by omega) hs ht e)
   refine⟨H',g',N'',?_,r2⟩;rw [LG];have eb:=jS (e:=64) (m:=1) (z:=[zP]) (v:=.ref (a 0) 0 0) (H:=Ha) rfl rfl rfl;have ec:(AV.ref (a 0) 0 0).cells=[.ref (a 0) 0 0]:=rfl;rw [ec] at eb;simp only [o] at t1 t2;simp only [Nat.reduceLeDiff,xq_,hq_,h1,s1,s2,s4,hy,a1,ajx,zbo,eb,t1,t2,dF,h6,h7,r1]
 have hfl:f < H2.next:=M1.good.lt F1.1
 have ht:=M2.lt aU;obtain⟨H',g',N,r1,r2,r3,r4,r5,r6⟩:=key ps.length 0 (by omega) _ g0 (λ_ _=> 0) M0 aU (λq hq=> rfl) (λj l hj=> by omega) (λi j s t hi=> by omega);have hg0:∀q,q < H2.next->g0 q=gf q:=λq hq=> by simp only [g0];rw [aZ (by omega),aZ (by omega)]
 refine⟨H',{ A0 with N:=N },g',bg rfl rfl (aks _ _ _ _ (r:=(_,H')) ?_),r2.DI,?_⟩
 ·have l7:c.av[7]?=some (dat c.init):=rfl;have b0:oQ Tryz.prog .neq 57 (I 0) (I 0)=some (B false):=by kernel_rfl
  have st7:st 1 (.ref H.next 0 7) (dat c.init) H1=some (aY,H1):=by
   simp only [H1];rw [Gg rfl];simp only [Nat.reduceAdd,aN,xq_,hq_,Cfg.av,hb]
  have em:bd 53 [(0,.ref f 0 0),(1,.ref t 0 0),(2,.agg c.av)]=some (.agg xs):=by
   simp only [xq_,ajE,jX,gI,ahe,Cfg.av,fJ];rfl
  have el:=(hx.jZ (H':=H3.new (.blk 0 53 xs)) (by have:=M12.next;simp only [fA];omega) λr hr=> by rw [M0.same r (by omega)];exact cZ hr)
  obtain⟨cells,x1,_⟩:=el;have el:=x1.lnS;simp only [H1] at b1 e1 e2 e3 e4 e5 st7;simp only [Nat.reduceLT,xq_,hq_,ahv,aF (iF c),b1,e1,b0,e2,e3,l7,st7,e4,e5,b3,em,aF hall,el];exact r1
 ·refine⟨?_,?_,⟨?_,?_,rfl,rfl⟩,?_,?_,?_,?_⟩
  ·rw [r3];simp only [dZ.new,zbP]
  ·rw [r4 t ht.2];simp only [g0];rw [aZ (by omega),aU];rfl
  ·show g' f=_;rw [r4 f (by have:=M2.next;omega),hg0 f hfl,F1.1];rfl
  ·intro i p hp;have I:=F1.2.1 i p hp;exact I.ext λs hs=> by
    obtain⟨l,r,hg⟩:=I.some hs;have:=M1.good.lt hg;rw [r4 _ (by have:=M2.next;omega),hg0 _ this]
  ·intro i n hi;simp only [dZ.new,zbf,zbV] at hi;obtain⟨l,hl,rfl⟩:=hi;exact r5 i l (zai.1 hl).1 hl
  ·simp only [dZ.new,Fab.new,zb4];exact J1
  ·simp only [dZ.new,zbP];exact r6
  ·show t≠f;omega
section
variable {b:Nat}{H:ah}{g:bD}{q:Nat}
theorem MG(G:Good b H g){p:Proc}(h:g q=some (pU p))(h1:p.ops.length < 1000)(h2:p.bH.length < 1000):cl 66 [.ref q 0 0] H=some (I p.left,H):=by
 refine bg rfl rfl (ape _ _ _ ?_);have e1:=G.load h (i:=0) rfl;have e2:=(Jt gK H p.ops).lnS;obtain⟨x,hx,c⟩:=G.seq h (i:=1) rfl;have e3:=(c.is (n:=p.bH.length) (by decide) (by simp)).lnS;simp only [xq_,akP,e1,e2,hx,e3,jR,Proc.left];rw [wrap_i64 (by omega) (by omega)]
theorem P5(G:Good b H g){p:Proc}(h:g q=some (pU p)):cl 64 [.ref q 0 0] H=some (B p.eF,H):=by
 refine bg rfl rfl (apc _ _ _ ?_);have e1:=G.load h (i:=2) rfl;simp only [xq_,akN,e1]
theorem aar(G:Good b H g){l:List Pkt}{room:Int}(h:g q=some (mZ l room)):cl 52 [.ref q 0 0] H=some (I l.length,H):=by
 refine bg rfl rfl (ao7 _ _ _ ?_);obtain⟨x,hx,c⟩:=G.seq h (i:=0) rfl;have e2:=(c.is (by decide) (dR bT l)).lnS;simp only [xq_,akF,hx,e2]
theorem Vq(G:Good b H g){l:List Pkt}{room:Int}(h:g q=some (mZ l room)):cl 72 [.ref q 0 0] H=some (I l.length,H):=by
 refine bg rfl rfl (apl _ _ _ ?_);obtain⟨x,hx,c⟩:=G.seq h (i:=0) rfl;have e2:=(c.is (by decide) (dR bT l)).lnS;simp only [xq_,akV,hx,e2]
theorem aas {H:ah}(l:List Int)(h:l.length < 1000000000):app 3 1 8 zN (dat l) H=some (if l=[] then(zN,H) else(.sl H.next 0 0 1 l.length l.length false,H.new (.blk 0 (3+gV) (l.map I)))):=by
 by_cases h0:l=[]
 ·subst h0;simp only [dat,gZ,if_true];rfl
 ·rw [if_neg h0];exact YR (mQ _ l) (Ai l) (λe=> h0 (zas e)) (by unfold most;omega) (by unfold most;omega)
theorem WR {H:ah}{s d r:Nat}{l:List Int}(hl:l≠[])(hr:s<=r){ty:TypeId}(hg:H.get r=.blk 0 ty (l.map I)){ex:Bool}:bV H s (d+2) (.sl r 0 0 1 l.length l.length ex)=some (dat l):=by
 rw [yD hl];refine mV hr (cells:=l.map I) ?_ (iR _ λx hx=> xJ _ x hx _ _);simp only [dw,hg];rw [if_pos ⟨trivial,by simp⟩,zaQ,zaz (by simp)]
theorem ada(G:Good b H g){a:Nat->Nat}{c:Cfg}{me:Int}{d:bJ}{num:Int}(h:g q=some (vS a c me d num))(hd:d.data.length < 1000000000):
  cl 30 [.ref q 0 0] H=some (.tup [.agg (if d.step=0 then bJ.zero else d).av,B (!decide (d.step=0))],H):=by
 have zd:bJ.zero.av=[zI,zI,zI,zI,zI,zI,zN,zI,zI]:=by simp [bJ.zero,bJ.av,dat,gZ]
 have G1:=G.guard.new (.blk 0 73 [zI,zI,zI,zI,zI,zI,zN,zI,zI]);have e1:=G1.load h (i:=15) (x:=I d.step) rfl;have ez:bd 73 []=some (.agg [zI,zI,zI,zI,zI,zI,zN,zI,zI]):=by simp only [xq_,Wx,jX,gI]
 by_cases h0:d.step=0
 ·refine bU rfl rfl (ahz _ _ _) ?_ ?_
  ·simp only [Nat.reduceAdd,aN,xq_,hq_,Zi,e1,h0,ez,zd,zae]
  ·rw [if_pos h0,zd];refine rY λx hx=> ?_;simp only [zaj,zay,or_false] at hx;rcases hx with rfl | rfl
   ·refine mW λx hx=> ?_;simp only [zaj,zay,or_false] at hx;rcases hx with rfl | rfl | rfl | rfl | rfl | rfl | rfl | rfl | rfl <;> exact gq
   ·exact gq
 ·have e2:=G1.loads h (i:=12) (n:=9) (xs:=d.av) rfl rfl (by decide);by_cases hl:d.data=[]
  ·refine bU rfl rfl (ahz _ _ _) (v:=.tup [.agg d.av,B true]) ?_ ?_ |>.trans ?_
   ·have e3:=λH=> aas (H:=H) d.data hd;have hz:dat ([]:List Int)=zN:=by simp [dat,gZ]
    simp only [hl,if_true,hz] at e3;have zc:zN.cells=[zN]:=rfl;simp only [Nat.reduceAdd,aN,xq_,hq_,Zi,e1,h0,e2,bJ.av,hl,e3,hz,zc]
   ·refine rY λx hx=> ?_;simp only [zaj,zay,or_false] at hx;rcases hx with rfl | rfl
    ·refine mW λx hx=> ?_;simp only [bJ.av,zaj,zay,or_false] at hx;rcases hx with rfl | rfl | rfl | rfl | rfl | rfl | rfl | rfl | rfl <;> first | exact gq | exact uM
    ·exact gq
   ·simp only [h0,if_false,decide_false,zal]
  ·let Hr:=H.next+2
   have e3:=λH=> aas (H:=H) d.data hd;simp only [hl,if_false] at e3;have key:∃Hz,Zi cl (.ref q 0 0) H.guard=some (.tup [.agg [I d.aO,I d.aj,I d.id,I d.step,I d.aQ,I d.head,.sl (H.next+2) 0 0 1 d.data.length d.data.length false,I d.next,I d.told],B true],Hz)/\Hz.get (H.next+2)=.blk 0 (3+gV) (d.data.map I):=by
    have cs:∀r n m,(AV.sl r 0 0 1 n m false).cells=[.sl r 0 0 1 n m false]:=λ_ _ _=> rfl;have ic:∀r n m,AV.aX (.sl r 0 0 1 n m false)=true:=λ_ _ _=> rfl;simp only [Nat.reduceAdd,aN,xq_,hq_,zaa,zad,exists_eq_left',Zi,e1,h0,e2,bJ.av,e3,cs,ic];exact bF (by first | rfl | simp only [fA,BF])
   obtain⟨Hz,k1,k2⟩:=key;refine jq rfl rfl (ahz _ _ _ k1) ?_;have f:=WR (s:=H.next) (d:=5) (ex:=false) hl (by omega) k2;have f':∀v,bV Hz H.next 7 (.s v)=some (.s v):=λv=> jC
   have f'':∀v,bV Hz H.next 8 (.s v)=some (.s v):=λv=> jC
   rw [bV,zbw,bV];simp only [zbw,List.mapM_nil,f,f',f'',h0,if_false,decide_false,zal,bJ.av];rfl
end
section
variable {b:Nat}{H:ah}{g:bD}{q f:Nat}{P:Nat->Nat->Nat}{c:Cfg}{fab:Fab}
theorem Cur.elemAt {i m n:Nat}{x:AV}{l:List AV}(cu:Cur b H q i x m l)(hm:0 < m)(hl:l.length=n*m){j:Nat}(hj:j < n):
  ∃r gg o,(∀k:IntKind,ix m x (.s (.int k j)) H=some (.ref r gg o,H))/\(∀k,k < m->ld (.ref r gg (o+k)) H=(l[j*m+k]?).map λv=> (v,H))/\lda m (.ref r gg o) H=some (.agg ((l.drop (j*m)).take m),H):=by
 have hs:=cu.is hm hl;have hjm:(j+1)*m<=n*m:=zaB _ (by omega);rw [zbu,zbo] at hjm;rcases cu.length hm hl with⟨_,h0⟩ | ⟨r,gg,off,cap,ex,ty,all,rfl,k1,k2,k3,k4,k5,k6,k7,k8⟩
 ·omega
 have hcm:n*m<=cap*m:=zaB _ k4;refine⟨r,gg,off+j*m,λk=> ?_,λk hk=> ?_,?_⟩
 ·have:=hs.ix (k:=k) (i:=(j:Int)) (by omega) (by omega);rw [zat] at this;exact this
 ·rw [kS k5,k8,zaA,if_pos (by omega),zaC,zb9]
 ·rw [gy k5 (by omega),k8]
  congr 3
  rw [zcf,zbE,zb0,zbr (by omega)]
theorem GY {α:Type}{enc:α->List AV}{m:Nat}(he:∀a,(enc a).length=m)(l:List α)(i:Nat)(a:α)(hi:l[i]?=some a){k:Nat}(hk:k < m):(l.flatMap enc)[i*m+k]?=(enc a)[k]?:=by
 have:=uK he l i a hi;rw [<-this,zaA,if_pos hk,zaC]
theorem Aq(G:Good b H g)(F:gY g f P c fab)(hn:fab.l.length < 1000)(i:Int):cl 71 [.ref f 0 0,I i] H=some (B (fab.is i),H):=by
 refine bg rfl rfl (apk _ _ _ _ ?_);obtain⟨x,hx,cu⟩:=G.seq F.1 (i:=0) rfl;have e2:=(cu.is (by decide) (oJ P _)).lnS;by_cases h0:0<=i
 ·simp only [xq_,ahF,h0,hx,e2,Fab.is,zaU]
 ·simp only [xq_,ahF,h0,Fab.is,zaV]
theorem gY.port(F:gY g f P c fab){i:Nat}(hi:i < fab.l.length):vM g (P i) c (fab.port i):=by
 have:=F.2.1 i (fab.l[i]) (zab hi);unfold Fab.port;rw [zat,zaF,zab hi];exact this
theorem WS(G:Good b H g)(F:gY g f P c fab)(hn:fab.l.length < 1000)(i:Int):
  cl 29 [.ref f 0 0,I i] H=some (.tup [I (fab.waiting i true),I (fab.waiting i false)],H):=by
 refine bg rfl rfl (ao2 _ _ _ _ ?_);have e1:=Aq G F hn i;cases hi:fab.is i with
 | false=>
  rw [hi] at e1;simp only [xq_,ahy,e1,zal,Fab.waiting,hi];rfl
 | true=>
  rw [hi] at e1;simp only [Fab.is,zaf,decide_eq_true_eq] at hi;obtain⟨n,rfl⟩:∃n:Nat,i=n:=⟨i.toNat,by omega⟩
  have hl:n < fab.l.length:=by omega
  obtain⟨x,hx,cu⟩:=G.seq F.1 (i:=0) rfl;obtain⟨r,gg,o,a1,a2,_⟩:=cu.elemAt (by decide) (oJ P _) hl;have hr:(List.range fab.l.length)[n]?=some n:=zbB hl;have l1:=a2 1 (by decide);rw [GY (m:=4) (λ_=> rfl) _ n n hr (by decide)] at l1;have l3:=a2 3 (by decide);rw [GY (m:=4) (λ_=> rfl) _ n n hr (by decide)] at l3;have hp:=F.port hl;have q1:=Vq G.guard hp.2.1;have q3:=Vq G hp.2.2.2;have l1':ld (.ref r gg (o+1)) H=some (.ref (P n 1) 0 0,H):=l1;have l3':ld (.ref r gg (o+2+1)) H=some (.ref (P n 3) 0 0,H):=l3;have a1':=a1 .i64;have w:∀req,fab.waiting n req=((fab.port n).qL req).length:=λreq=> by
   unfold Fab.waiting;rw [if_pos (by simp only [Fab.is,zaf,decide_eq_true_eq];omega)]
  simp only [xq_,ahy,e1,zae,hx,a1',l1',l3',q1,q3,w,Port.qL]
end
section
variable {b:Nat}{H:ah}{g:bD}{q f:Nat}{P:Nat->Nat->Nat}{c:Cfg}{fab:Fab}
theorem ah2 {e:TypeId}{H:ah}{a b c d:Nat}:bsl e 2 [zP,zP] 2 [(0,.agg [.ref a 0 0,.ref b 0 0]),(1,.agg [.ref c 0 0,.ref d 0 0])] H=some (.sl H.next 0 0 2 2 2 true,H.new (.blk 0 e [.ref a 0 0,.ref b 0 0,.ref c 0 0,.ref d 0 0])):=rfl
def iH(P:Nat->Nat->Nat)(n:Nat):List AV:=(List.range n).flatMap λi=> nV (P i)
theorem gY.lt(G:Good b H g)(F:gY g f P c fab){i s:Nat}(hi:i < fab.l.length)(hs:s < 4):P i s < H.next:=by
 obtain⟨l,r,h⟩:=(F.port hi).some hs;exact G.lt h
theorem Vr(G:Good b H g)(F:gY g f P c fab)(hn:fab.l.length < 1000)(h0:fab.l.length≠0):
  cl 51 [.ref f 0 0] H=some (.vs (2*fab.l.length) 2 (iH P fab.l.length),H):=by
 obtain⟨x,hx,cu⟩:=G.guard.seq F.1 (i:=0) rfl;have e2:=(cu.is (by decide) (oJ P _)).lnS;have hfr:∀d,∀y∈iH P fab.l.length,∀Hz,bV Hz H.next (d+1) y=some y:=λd y hy Hz=> by
  obtain⟨i,hi,hy⟩:=za9.1 hy;have hi:=zaX.1 hi;simp only [nV,zaj,zay,or_false] at hy;rcases hy with rfl | rfl | rfl | rfl <;> · rw [bV];exact if_pos (F.lt G hi (by omega))
 have key:∀k i,i+k=fab.l.length->∀Hi t,Own H.next Hi t 2 (iH P i)->Step H.next H.guard Hi->
   ∃v Hz,LK cl [t,x,I fab.l.length,I i] Hi=some (v,Hz)/\Own H.next Hz v 2 (iH P fab.l.length):=by
  intro k
  induction k with
  | zero=>
   intro i hi Hi t o s;have h1:¬(i:Int) < fab.l.length:=by omega
   rw [Zk];refine⟨t,Hi,?_,by rw [show fab.l.length=i by omega];exact o⟩;simp only [xq_,h1]
  | succ k ih=>
   intro i hi Hi t o s;have h1:(i:Int) < fab.l.length:=by omega
   have h6:(i:Int)+1=((i+1:Nat):Int):=by omega
   have h7:=wrap_i64 (a:=((i+1:Nat):Int)) (by omega) (by omega);obtain⟨r,gg,off,a1,_,a3⟩:=(cu.ext s.next s.low).elemAt (by decide) (oJ P _) (j:=i) (by omega);have a1:=a1 .i64;rw [uK (m:=4) (λ_=> rfl) _ i i (zbB (by omega))] at a3;let H1:=Hi.new (.blk 0 142 (nV (P i)));have hpl:(iH P i).length=(2*i)*2:=by
    rw [iH,oJ];omega
   have sb:Hi.base=H.next:=s.base
   have sn:H.next<=Hi.next:=s.next
   obtain⟨v',Hj,t1,t2,t3⟩:=((o.new (.blk 0 142 (nV (P i)))).new (.blk 0 121 (nV (P i)))).step (e:=121) (by_:=16) (by simp only [fA];omega) (by simp only [jy];omega) (by decide) hpl (ku (ex:=true) (n:=2) (m:=2) (l:=nV (P i)) rfl) rfl (by unfold most;omega) (by unfold most;omega);have hs:iH P (i+1)=iH P i++nV (P i):=by
    simp only [iH];rw [zck,zbT,zaE,List.flatMap_nil,zbl]
   rw [<-hs] at t2;obtain⟨v,Hz,r1,r2⟩:=ih (i+1) (by omega) Hj v' t2 ((s.trans ((Step.new _ (by omega)).trans (Step.new _ (by simp only [fA];omega)))).trans t3);refine⟨v,Hz,?_,r2⟩;rw [Zk];have ca:∀a b c d,(AV.agg [.ref a 0 0,.ref b 0 0,.ref c 0 0,.ref d 0 0]).cells=[.ref a 0 0,.ref b 0 0,.ref c 0 0,.ref d 0 0]:=λ_ _ _ _=> rfl;have hbase:Hi.base<=Hi.next:=by omega
   simp only [nV,fA] at a3 t1;simp only [Nat.reduceAdd,Nat.reduceLeDiff,aN,xq_,hq_,h1,a1,a3,hbase,ajz,Nat.reduceMul,ah2,t1,dF,h6,h7,r1]
 obtain⟨v,Hz,r1,r2⟩:=key fab.l.length 0 (by omega) H.guard zN (.inl ⟨rfl,rfl⟩) (Step.refl _ _);refine jq rfl rfl (ao6 _ _ _ (r:=(v,Hz)) ?_) ?_
 ·simp only [xq_,akE,hx,e2];exact r1
 ·have hpl:(iH P fab.l.length).length=(2*fab.l.length)*2:=by
   rw [iH,oJ];omega
  have hs:=r2.is (by decide) hpl;obtain⟨c1,c2⟩:=hs.Dn;rcases r2 with⟨rfl,e⟩ | ⟨r,gg,off,n',cap,ex,ty,all,rfl,k2,k3,k4,k5,k6,k7,k8⟩
  ·rw [e] at hpl;simp only [zan] at hpl;omega
  ·have hn':n'=2*fab.l.length:=by
    have:=hs.2.2.1;exact this
   subst hn';exact mV k2 c2 (iR _ λy hy=> hfr _ y hy _)
theorem aat {α β:Type}{u v:α->β}:∀(l:List α) (i:Nat),(l.flatMap λp=> [u p,v p])[2*i]?=l[i]?.map u/\(l.flatMap λp=> [u p,v p])[2*i+1]?=l[i]?.map v
 | [],i=> by simp
 | a::l,0=> by simp
 | a::l,i+1=> by
  have:=aat (u:=u) (v:=v) l i;rw [show 2*(i+1)=2*i+1+1 by omega]
  simpa using this
theorem gY.agx(F:gY g f P c fab){j:Nat}(hj:j < 2*fab.l.length):
  ∃l a a',fab.iV[j]?=some l/\((iH P fab.l.length).drop (j*2)).take 2=[.ref a 0 0,.ref a' 0 0]/\g a=some (mZ l c.out):=by
 have hi:j / 2 < fab.l.length:=by omega
 have hp:=F.port hi;have hg:fab.l[j / 2]?=some (fab.port (j / 2:Nat)):=by
  unfold Fab.port;rw [zat,zaF,zab hi];rfl
 have hfl:=uK (m:=4) (enc:=λi=> nV (P i)) (λ_=> rfl) (List.range fab.l.length) (j / 2) (j / 2) (zbB hi);have h2:=aat (u:=Port.rq) (v:=Port.an) fab.l (j / 2);rw [hg] at h2;rcases Nat.mod_two_eq_zero_or_one j with h | h
 ·refine⟨_,P (j / 2) 0,P (j / 2) 1,?_,?_,hp.1⟩
  ·have:=h2.1;rw [show 2*(j / 2)=j by omega] at this;exact this
  ·have e:((iH P fab.l.length).drop (j*2)).take 2=(((iH P fab.l.length).drop (j / 2*4)).take 4).take 2:=by
    rw [zb0,show j / 2*4=j*2 by omega];rfl
   rw [e];exact(congrArg (List.take 2) hfl).trans rfl
 ·refine⟨_,P (j / 2) 2,P (j / 2) 3,?_,?_,hp.2.2.1⟩
  ·have:=h2.2;rw [show 2*(j / 2)+1=j by omega] at this;exact this
  ·have e:((iH P fab.l.length).drop (j*2)).take 2=((((iH P fab.l.length).drop (j / 2*4)).take 4).drop 2).take 2:=by
    rw [zcf,zbE,zb0,show j / 2*4+2=j*2 by omega];rfl
   rw [e];exact(congrArg (λl=> (List.drop 2 l).take 2) hfl).trans rfl
end
section
variable {b:Nat}{H:ah}{g:bD}{q f:Nat}{P:Nat->Nat->Nat}{c:Cfg}{fab:Fab}
theorem adb {ls:List (List Pkt)}{j:Nat}{l:List Pkt}(h:ls[j]?=some l):((ls.take (j+1)).map List.length).sum=((ls.take j).map List.length).sum+l.length:=by
 rw [zdx,h];simp
theorem P6:∀l:List Port,((l.flatMap λp=> [p.rq,p.an]).map List.length).sum=(l.flatMap λp=> p.rq++p.an).length
 | []=> rfl
 | p::l=> by
  have:=P6 l;simp only [zaE,zbj,zcG,zao,this];simp
theorem qE:∀l:List Port,(l.flatMap λp=> [p.rq,p.an]).length=2*l.length
 | []=> rfl
 | p::l=> by
  have:=qE l;simp only [zaE,zao,this,zam,zan];omega
theorem am8 {ls:List (List Pkt)}{m:Nat}(h:∀l∈ls,l.length<=m):(ls.map List.length).sum<=ls.length*m:=by
 induction ls with
 | nil=> simp
 | cons l ls ih=>
  have h1:=h l (by simp);have:=ih λl' hl'=> h l' (by simp [hl']);simp only [zaw,zbX,zam,zbu,zbo];omega
theorem Vs(G:Good b H g)(F:gY g f P c fab)(hn:fab.l.length < 1000)(h0:fab.l.length≠0)(hr:∀l∈fab.iV,l.length < 1000):
  cl 17 [.ref f 0 0] H=some (I fab.under,H):=by
 have e1:=Vr G.guard F hn h0;have hpl:(iH P fab.l.length).length=(2*fab.l.length)*2:=by
  rw [iH,oJ];omega
 have hsl:∀H,aW H (.vs (2*fab.l.length) 2 (iH P fab.l.length)) 2 (2*fab.l.length) (iH P fab.l.length):=λH=> aW.vs hpl;have e2:=(hsl H.guard).lnS;have hcnt:fab.iV.length=2*fab.l.length:=qE fab.l;have key:∀k j,j+k=2*fab.l.length->∀Hi,Step H.next H.guard Hi->
   ∃Hz,LD cl [I ((fab.iV.take j).map List.length).sum,.vs (2*fab.l.length) 2 (iH P fab.l.length),I (2*fab.l.length:Nat),I j] Hi=some (I fab.under,Hz):=by
  intro k
  induction k with
  | zero=>
   intro j hj Hi s;have h1:¬(j:Int) < (2*fab.l.length:Nat):=by omega
   rw [Zc];refine⟨Hi,?_⟩;have h2:((fab.iV.take j).map List.length).sum=fab.under:=by
    rw [zaz (by omega)];exact P6 fab.l
   simp only [xq_,h1,h2]
  | succ k ih=>
   intro j hj Hi s;have h1:(j:Int) < (2*fab.l.length:Nat):=by omega
   have h6:(j:Int)+1=((j+1:Nat):Int):=by omega
   have h7:=wrap_i64 (a:=((j+1:Nat):Int)) (by omega) (by omega);have a1:=(hsl Hi).ix (k:=.i64) (i:=(j:Int)) (by omega) h1;rw [zat] at a1;have a3:=(hsl Hi).lda (i:=j) (by omega);obtain⟨l,a,a',p1,p2,p3⟩:=F.agx (j:=j) (by omega);rw [p2] at a3;have hsn:=adb p1;have hln:((fab.iV.take (j+1)).map List.length).sum<=(fab.iV.take (j+1)).length*1000:=am8 λl hl=> Nat.le_of_lt (hr l (zcQ hl));have hlt:(fab.iV.take (j+1)).length<=2*fab.l.length:=by rw [zax];omega
   have h8:((((fab.iV.take j).map List.length).sum:Nat):Int)+(l.length:Int)=((((fab.iV.take (j+1)).map List.length).sum:Nat):Int):=by omega
   have h9:=wrap_i64 (a:=((((fab.iV.take (j+1)).map List.length).sum:Nat):Int)) (by omega) (by omega);have G1:Good b (Hi.new (.blk 0 121 [.ref a 0 0,.ref a' 0 0])) g:=(G.guard.ext s.next s.low).new _;have e3:=aar G1 p3;have aq0:H.next<=Hi.next:=s.next
   have sb:Hi.base=H.next:=s.base
   have hbase:Hi.base<=Hi.next:=by omega
   obtain⟨Hz,r1⟩:=ih (j+1) (by omega) _ (s.trans (Step.new (.blk 0 121 [.ref a 0 0,.ref a' 0 0]) aq0));refine⟨Hz,?_⟩;rw [Zc];simp only [Nat.reduceAdd,aN,xq_,hq_,h1,a1,a3,hbase,e3,dF,h8,h9,h6,h7,r1]
 obtain⟨Hz,r1⟩:=key (2*fab.l.length) 0 (by omega) H.guard (Step.refl _ _);refine jq rfl rfl (aoS _ _ _ (r:=(I fab.under,Hz)) ?_) jC;simp only [xq_,akq,e1,e2];exact r1
end
section
variable {b:Nat}{H:ah}{g:bD}{A:Adr}{m:dZ}
structure dZ.fine(m:dZ):Prop where
 ok:m.c.ok=true
 aG:(m.aG.length:Int)=m.c.aG
 fab:m.fab.l.length=m.aG.length
 ops:∀n∈m.aG,n.bP.ops.length < 1000/\n.bP.bH.length < 1000
 iV:∀l∈m.fab.iV,l.length < 1000
 aI:∀n∈m.aG,n.aI.data.length < 1000000000
 ins:∀p∈m.fab.l,p.rin.length < 1000/\p.ain.length < 1000
theorem wP(N:Nat->Nat->Nat)(n:Nat):(pJ N n).length=n*1:=by simp [pJ]
theorem GZ {N:Nat->Nat->Nat}{n i:Nat}(h:i < n):(pJ N n)[i]?=some (.ref (N i 0) 0 0):=by
 simp [pJ,zbB h]
theorem aau(G:Good b H g)(M:iM g A m)(hm:m.fine):cl 23 [.ref A.je 0 0] H=some (I m.left,H):=by
 have Bd:=Ak hm.ok;refine bg rfl rfl (aoV _ _ _ ?_);obtain⟨x,hx,cu⟩:=G.seq M.je (i:=10) rfl;have e2:=(cu.is (by decide) (wP _ _)).lnS;have hbd:∀j,j<=m.aG.length->-(j*1000:Int)<=((m.aG.take j).map λn=> n.bP.left).sum/\((m.aG.take j).map λn=> n.bP.left).sum<=j*1000:=by
  intro j
  induction j with
  | zero=> intro _;simp
  | succ j ih=>
   intro hj;have i1:=ih (by omega);have hg:m.aG[j]?=some (m.aG[j]'(by omega)):=zab (by omega);have i2:=hm.ops _ (zaq hg);have i3:-1000<=(m.aG[j]'(by omega)).bP.left/\(m.aG[j]'(by omega)).bP.left<=1000:=by
    unfold Proc.left;omega
   rw [zdx,hg];simp only [zcH,zbj,zaw,zbC,zcG,zbX,List.sum_nil];omega
 have key:∀k j,j+k=m.aG.length->LJ cl [I ((m.aG.take j).map λn=> n.bP.left).sum,x,I m.aG.length,I j] H=some (I m.left,H):=by
  intro k
  induction k with
  | zero=>
   intro j hj;have h1:¬(j:Int) < m.aG.length:=by omega
   rw [Zg];have h2:((m.aG.take j).map λn=> n.bP.left).sum=m.left:=by
    rw [zaz (by omega)];rfl
   simp only [xq_,h1,h2]
  | succ k ih=>
   intro j hj;have h1:(j:Int) < m.aG.length:=by omega
   have hn:=hm.aG;have hBn:=Bd.aG;have h6:(j:Int)+1=((j+1:Nat):Int):=by omega
   have h7:=wrap_i64 (a:=((j+1:Nat):Int)) (by omega) (by omega);obtain⟨r,gg,o,a1,a2,_⟩:=cu.elemAt (by decide) (wP _ _) (j:=j) (by omega);have a1:=a1 .i64;have a2:=a2 0 (by decide);rw [zbI,zbp,zbp,GZ (by omega)] at a2;have hg:m.aG[j]?=some (m.aG[j]'(by omega)):=zab (by omega);have Nj:=M.bG j _ hg;have ho:=hm.ops _ (zaq hg);have e3:=G.load Nj.1 (i:=1) rfl;have e4:=MG G Nj.2.2.1 ho.1 ho.2;have h8:((m.aG.take j).map λn=> n.bP.left).sum+(m.aG[j]'(by omega)).bP.left=((m.aG.take (j+1)).map λn=> n.bP.left).sum:=by
    rw [zdx,hg];simp only [zcH,zbj,zaw,zbC,zcG,zbX,List.sum_nil,Int.add_zero]
   have hb1:=hbd (j+1) (by omega);have h9:=wrap_i64 (a:=((m.aG.take (j+1)).map λn=> n.bP.left).sum) (by omega) (by omega);have r1:=ih (j+1) (by omega);rw [Zg];simp only [xq_,h1,a1,a2,e3,e4,dF,h8,h9,h6,h7,r1]
 have r1:=key m.aG.length 0 (by omega);simp only [xq_,akx,hx,e2];exact r1
end
theorem IJ {n:Nat}{p:Nat->Bool}{i:Nat}(hi:i < n)(h:∀j,j < i->p j=true)(hp:p i=false):(List.range n).all p=false:=by
 rw [List.all_eq_false];exact⟨i,zaX.2 hi,by rw [hp];simp⟩
theorem MJ {n:Nat}{p:Nat->Bool}(h:∀j,j < n->p j=true):(List.range n).all p=true:=by
 rw [za2];exact λi hi=> h i (zaX.1 hi)
section
variable {b:Nat}{H:ah}{g:bD}{A:Adr}{m:dZ}
theorem aav(hm:m.fine)(i:Int)(req:Bool):m.fab.waiting i req < 1000:=by
 unfold Fab.waiting;split
 ·rename_i h;simp only [Fab.is,zaf,decide_eq_true_eq] at h;have hl:i.toNat < m.fab.l.length:=by omega
  have e:m.fab.port i=m.fab.l[i.toNat]:=by
   unfold Fab.port;rw [zaF,zab hl];rfl
  have:=hm.ins _ (zcO hl);rw [e];cases req
  ·exact this.2
  ·exact this.1
 ·omega
theorem MK(G:Good b H g)(M:iM g A m)(hm:m.fine):cl 21 [.ref A.je 0 0] H=some (B m.quiet,H):=by
 have Bd:=Ak hm.ok;have hn:=hm.aG;have hBn:=Bd.aG;have hfl:=hm.fab;obtain⟨x,hx,cu⟩:=G.guard.seq M.je (i:=10) rfl;have e2:=(cu.is (by decide) (wP _ _)).lnS;have key:∀k j,j+k=m.aG.length->(∀i,i < j->(!m.busy i)=true)->∀Hi,Step H.next H.guard Hi->
   ∃Hz,Cb cl [.ref A.je 0 0,x,I m.aG.length,I j] Hi=some (B m.quiet,Hz):=by
  intro k
  induction k with
  | zero=>
   intro j hj hf Hi s;have h1:¬(j:Int) < m.aG.length:=by omega
   have Gi:=G.guard.ext s.next s.low
   have e1:=Gi.load M.je (i:=0) rfl;have e3:=Vs Gi M.fab (by omega) (by omega) hm.iV;have hq:m.quiet=decide (m.fab.under=0):=by
    unfold dZ.quiet;rw [MJ λi hi=> hf i (by omega),zaU]
   have hz:decide ((m.fab.under:Int)=0)=decide (m.fab.under=0):=by simp
   rw [Zd];refine⟨Hi,?_⟩;simp only [xq_,h1,e1,e3,hq,hz]
  | succ k ih=>
   intro j hj hf Hi s;have h1:(j:Int) < m.aG.length:=by omega
   have h6:(j:Int)+1=((j+1:Nat):Int):=by omega
   have h7:=wrap_i64 (a:=((j+1:Nat):Int)) (by omega) (by omega);have Gi:=G.guard.ext s.next s.low
   obtain⟨r,gg,o,a1,a2,_⟩:=(cu.ext s.next s.low).elemAt (by decide) (wP _ _) (j:=j) (by omega);have a1:=a1 .i64;have a2:=a2 0 (by decide);rw [zbI,zbp,zbp,GZ (by omega)] at a2;obtain⟨n,hg⟩:∃n,m.aG[j]?=some n:=⟨_,zab (by omega)⟩
   have Nj:=M.bG j _ hg;have hnm:=zaq hg;have e3:=ada Gi Nj.1 (hm.aI _ hnm);obtain⟨dl,hdl⟩:∃dl:bJ,dl=if n.aI.step=0 then bJ.zero else n.aI:=⟨_,rfl⟩
   rw [<-hdl] at e3;let dv:=dl.av;have sn:H.next<=Hi.next:=s.next
   have sb:Hi.base=H.next:=s.base
   have hbase:Hi.base<=Hi.next:=by omega
   have Gj:=Gi.new (.blk 0 73 dv);have sj:=s.trans (Step.new (.blk 0 73 dv) sn);have e4:=Gj.load M.je (i:=0) rfl;have e5:=WS Gj M.fab (by omega) j;have e6:=Gj.load Nj.1 (i:=1) rfl;have e7:=P5 Gj Nj.2.2.1;have w1:=aav hm j true;have w2:=aav hm j false;have h9:=wrap_i64 (a:=((m.fab.waiting j true+m.fab.waiting j false:Nat):Int)) (by omega) (by omega);have h8:(m.fab.waiting j true:Int)+(m.fab.waiting j false:Int)=((m.fab.waiting j true+m.fab.waiting j false:Nat):Int):=by omega
   have hb:m.busy j=(!decide (n.aI.step=0) || n.bP.eF || decide (0 < m.fab.waiting j true+m.fab.waiting j false)):=by
    unfold dZ.busy;rw [hg]
   have cd:(AV.agg dv).cells=dv:=rfl;have ad:dv.all AV.aX=true:=bC _;have ld9:dv.length=9:=rfl;have E:Cb cl [.ref A.je 0 0,x,I m.aG.length,I j] Hi=if m.busy j=true then some (B false,Hi.new (.blk 0 73 dv)) else Cb cl [.ref A.je 0 0,x,I m.aG.length,I (j+1:Nat)] (Hi.new (.blk 0 73 dv)):=by
    rw [Zd,hb];simp only [dv] at e4 e5 e6 e7;by_cases d0:n.aI.step=0
    ·cases pb:n.bP.eF with
     | true=>
      rw [pb] at e7;simp only [Nat.reduceAdd,aN,xq_,hq_,h1,a1,a2,e3,d0,zae,hbase,e4,e5,e6,e7,dv,zca,zcL]
     | false=>
      rw [pb] at e7;by_cases hw:0 < m.fab.waiting j true+m.fab.waiting j false
      ·have hw':(0:Int) < ((m.fab.waiting j true+m.fab.waiting j false:Nat):Int):=by omega
       simp only [Nat.reduceAdd,aN,xq_,hq_,h1,a1,a2,e3,d0,zae,hbase,e4,e5,e6,e7,dv,zca,hw,hw',dF,h8,h9]
      ·have hw':¬(0:Int) < ((m.fab.waiting j true+m.fab.waiting j false:Nat):Int):=by omega
       simp only [Nat.reduceAdd,aN,xq_,hq_,h1,a1,a2,e3,d0,zae,hbase,e4,e5,e6,e7,dv,zca,hw,hw',dF,h8,h9,h6,h7]
    ·simp only [Nat.reduceAdd,aN,xq_,hq_,h1,a1,a2,e3,d0,zal,hbase,e4,e5,dv,zcL]
   rw [E];cases hbz:m.busy j with
   | true=>
    have hq:m.quiet=false:=by
     unfold dZ.quiet;rw [IJ (i:=j) (by omega) hf (by rw [hbz];rfl),zaV]
    exact⟨_,by rw [hq];rfl⟩
   | false=>
    obtain⟨Hz,r1⟩:=ih (j+1) (by omega) (λi hi=> by
     by_cases hij:i=j
     ·subst hij;rw [hbz];rfl
     ·exact hf i (by omega)) _ sj
    exact⟨Hz,r1⟩
 obtain⟨Hz,r1⟩:=key m.aG.length 0 (by omega) (λi hi=> by omega) H.guard (Step.refl _ _);refine jq rfl rfl (aoT _ _ _ (r:=(B m.quiet,Hz)) ?_) jC;simp only [xq_,aku,hx,e2];exact r1
end
section
variable {b:Nat}{H:ah}{g:bD}{A:Adr}{m:dZ}
theorem ah3(G:Good b H g)(M:iM g A m)(hm:m.fine):cl 115 [.ref A.je 0 0] H=some (B (m.quiet && decide (m.left=0)),H):=by
 refine bg rfl rfl (ak9 _ _ _ ?_);have e1:=MK G M hm;have e2:=aau G M hm;cases hq:m.quiet with
 | true=>
  rw [hq] at e1;simp only [xq_,Zw,e1,e2,zaU]
 | false=>
  rw [hq] at e1;simp only [xq_,Zw,e1,zaV]
theorem SX(G:Good b H g)(M:iM g A m)(hm:m.fine)(h1:m.quiet=true)(h2:m.left=0)(most:Int)(x:AV):cl 67 [.ref A.je 0 0,I most,x] H=some (I 0,H):=by
 have e:=ah3 G M hm;rw [h1,h2] at e;have e':(true && decide ((0:Int)=0))=true:=rfl;rw [e'] at e;refine bg rfl rfl (apf _ _ _ _ _ ?_);rw [akR,ahE];by_cases h0:0 < most
 ·simp only [xq_,h0,e,zae]
 ·simp only [xq_,h0]
end
def tK(ps:List (List Opn)):Nat:=(ps.map List.length).sum
def aaw(c:Cfg)(ps:List (List Opn)):Int:=40*((tK ps:Int)+1)*(c.aG+6)
theorem WT {ps:List (List Opn)}{j:Nat}{l:List Opn}(h:ps[j]?=some l):tK (ps.take (j+1))=tK (ps.take j)+l.length:=by
 unfold tK;rw [zdx,h];simp only [zcH,zbj,zaw,zbC,zcG,zbX,List.sum_nil,zbp]
theorem ade {ps:List (List Opn)}(j:Nat):tK (ps.take j)<=tK ps:=by
 have:tK ps=tK (ps.take j)+tK (ps.drop j):=by
  unfold tK;rw [<-zcG,<-zbj,zcl]
 omega
theorem adf(H:ah)(c:Cfg)(hc:0<=c.aG/\c.aG<=1000){x:AV}{ps:List (List Opn)}(hx:WO H x ps)(hn:ps.length < 1000000)(ht:tK ps < 1000000):cl 68 [.agg c.av,x] H=some (I (aaw c ps),H):=by
 have hx1:=hx.jZ (H':=H.guard.new (.blk 0 31 c.av)) (by rw [fA,BF];omega) λr hr=> by rw [cZ (by rw [BF];exact hr),aj9]
 obtain⟨cells,x1,x2⟩:=hx1;have hcl:cells.length=ps.length:=by have:=x1.1;omega
 have e1:=x1.lnS;have l0:c.av[0]?=some (I c.aG):=rfl;have key:∀k j,j+k=ps.length->LP cl [.ref H.next 0 0,I (tK (ps.take j)),x,I ps.length,I j] (H.guard.new (.blk 0 31 c.av))=some (I (aaw c ps),H.guard.new (.blk 0 31 c.av)):=by
  intro k
  induction k with
  | zero=>
   intro j hj;have h1:¬(j:Int) < ps.length:=by omega
   have h2:ps.take j=ps:=zaz (by omega);have w1:=wrap_i64 (a:=(tK ps:Int)+1) (by omega) (by omega);have w2:=wrap_i64 (a:=40*((tK ps:Int)+1)) (by omega) (by omega);have w3:=wrap_i64 (a:=c.aG+6) (by omega) (by omega);have hb1:0<=40*((tK ps:Int)+1)*(c.aG+6):=zcw (by omega) (by omega);have hb2:40*((tK ps:Int)+1)*(c.aG+6)<=40000000*1006:=zb1 (by omega) (by omega) (by omega) (by omega);have w4:=wrap_i64 (a:=40*((tK ps:Int)+1)*(c.aG+6)) (by omega) (by omega);rw [Zn,h2];simp only [xq_,hq_,h1,dF,oU,w1,w2,w3,w4,l0,aaw]
  | succ k ih=>
   intro j hj;have h1:(j:Int) < ps.length:=by omega
   have h6:(j:Int)+1=((j+1:Nat):Int):=by omega
   have h7:=wrap_i64 (a:=((j+1:Nat):Int)) (by omega) (by omega);have a1:=x1.ix (k:=.i64) (i:=(j:Int)) (by omega) h1;rw [zat] at a1;have a2:=x1.ld (i:=j) (by omega);obtain⟨v,hv⟩:∃v,cells[j]?=some v:=⟨_,zab (by omega)⟩
   obtain⟨l,hl⟩:∃l,ps[j]?=some l:=⟨_,zab (by omega)⟩
   rw [hv] at a2;have a3:=(x2 j v l hv hl).1.lnS;have h8:=WT hl;have h9:=ade (ps:=ps) (j+1);have h8':(tK (ps.take j):Int)+(l.length:Int)=(tK (ps.take (j+1)):Int):=by omega
   have h10:=wrap_i64 (a:=(tK (ps.take (j+1)):Int)) (by omega) (by omega);have r1:=ih (j+1) (by omega);rw [Zn];simp only [xq_,h1,a1,a2,a3,dF,h8',h10,h6,h7,r1]
 refine jq rfl rfl (apg _ _ _ _ (r:=(I (aaw c ps),H.guard.new (.blk 0 31 c.av))) ?_) jC;have r1:=key ps.length 0 (by omega);simp only [Nat.reduceLT,xq_,akT,aF (iF c),e1];exact r1
theorem WO.zN {H:ah}:WO H zN []:=⟨[],aW.nil,λi v l h=> by simp at h⟩
theorem adg {c:Cfg}(h:c.ok=true){ps:List (List Opn)}(hp:c.xY ps=true):(dZ.new c ps).fine:=by
 have Bd:=Ak h;obtain⟨h1,h2⟩:=ES hp;have bG:∀n∈(dZ.new c ps).aG,∃i l,l∈ps/\n=.new c i l:=λn hn=> by
  simp only [dZ.new,List.mem_mapIdx] at hn;obtain⟨i,hi,rfl⟩:=hn;exact⟨i,_,zcO hi,rfl⟩
 have ah4:∀p∈(dZ.new c ps).fab.l,p=.zero:=λp hp=> by
  simp only [dZ.new,Fab.new] at hp;exact List.eq_of_mem_replicate hp
 refine⟨h,?_,?_,λn hn=> ?_,λl hl=> ?_,λn hn=> ?_,λp hp=> ?_⟩
 ·simp only [dZ.new,zbP];exact h1
 ·simp only [dZ.new,Fab.new,zbP,zb4];omega
 ·obtain⟨i,l,hl,rfl⟩:=bG n hn;have:=h2 l hl;exact⟨by show l.length < 1000;omega,by show(0:Nat) < 1000;omega⟩
 ·simp only [Fab.iV,za9] at hl;obtain⟨p,hp,hl⟩:=hl;rw [ah4 p hp] at hl;simp only [Port.zero,zaj,zay,or_false,or_self] at hl;rw [hl];decide
 ·obtain⟨i,l,hl,rfl⟩:=bG n hn;show(0:Nat) < _;omega
 ·rw [ah4 p hp];exact⟨by decide,by decide⟩
def WU:Cfg:=⟨1,1,1,1,1,1,1,[]⟩
theorem ah5(H:ah):cl 27 [] H=some (B true,H):=by
 have hc:WU.ok=true:=by decide
 have hp:WU.xY [[]]=true:=by decide
 have hav:WU.av=[I 1,I 1,I 1,I 1,I 1,I 1,I 1,zN]:=by simp [WU,Cfg.av,dat,gZ]
 let H1:=H.guard.new (.blk 0 31 WU.av);let H2:=H1.new (.blk 0 62 [zN]);have hps:WO H2 (.sl (H.next+1) 0 0 1 1 1 true) [[]]:=⟨[zN],ku (n:=1) (m:=1) (l:=[zN]) rfl,λi v l a b=> by
  match i with
  | 0=> cases a;cases b;exact⟨aW.nil,λ_=> rfl⟩
  | i+1=> cases a⟩
 obtain⟨H3,A,g,e1,M,MI⟩:=WQ H2 (by simp only [H2,H1,jy,fA,an9,BF];omega) WU hc hps hp;have hf:=adg hc hp;have e2:=SX M.good MI hf (by decide) (by decide) 9 zN;let H4:=H3.new (.blk 0 62 [zN]);have aq1:WO H4 (.sl H3.next 0 0 1 1 1 true) [[]]:=⟨[zN],ku (n:=1) (m:=1) (l:=[zN]) rfl,λi v l a b=> by
  match i with
  | 0=> cases a;cases b;exact⟨aW.nil,λ_=> rfl⟩
  | i+1=> cases a⟩
 have e3:=adf H4 WU (by decide) aq1 (by decide) (by decide);have eb:aaw WU [[]]=280:=by decide
 rw [eb] at e3;have g1:H3.get H.next=.blk 0 31 WU.av:=by
  rw [M.same _ (by simp only [H2,H1,fA,BF];omega),cZ (by simp only [H1,fA,BF];omega)];exact bF rfl
 have b1:=pq g1;have ev:bd 31 [(0,I 1),(1,I 1),(2,I 1),(3,I 1),(4,I 1),(5,I 1),(6,I 1)]=some (.agg WU.av):=by
  rw [hav];simp only [xq_,ajC,jX,gI,ahc];rfl
 have b0:oQ Tryz.prog .eql 57 (I 0) (I 0)=some (B true):=by kernel_rfl
 have en:oQ Tryz.prog .neq 25 (.ref A.je 0 0) (.s (.pointer none))=some (B true):=by kernel_rfl
 have es:∀H,bs 27 1 [(0,zN)] H=some (.sl H.next 0 0 1 1 1 true,H.new (.blk 0 62 [zN])):=λH=> by
  exact(ajw (by decide)).trans rfl
 refine jq rfl rfl (aoZ _ _ (r:=(B true,H4)) ?_) jC;have ca:(AV.agg WU.av).cells=WU.av:=rfl;have la:WU.av.length=8:=rfl;simp only [H2,H1] at e1;simp only [Nat.reduceAdd,aN,xq_,hq_,akB,ev,ca,la,es,e1,b0,en,e2,b1,e3,H4]
def uS(v n:Int):Int:=if n < 1 then 0 else v % n
theorem SY {v n:Int}(h:1<=n):0<=uS v n/\uS v n < n:=by
 unfold uS;rw [if_neg (by omega)];exact⟨zb7 _ (by omega),zcj _ (by omega)⟩
theorem adh(v n:Int)(h:1<=n):v % n=if v.tmod n < 0 then v.tmod n+n else v.tmod n:=by
 have h1:=Int.tmod_eq_emod (a:=v) (b:=n);have h2:=zb7 v (b:=n) (by omega);have h3:=zcj v (b:=n) (by omega);rw [h1];rcases Decidable.em (0<=v∨n ∣ v) with hv | hv
 ·rw [if_pos hv];split <;> omega
 ·rw [if_neg hv];split <;> omega
theorem adi(v n:Int)(h:1<=n):-n < v.tmod n/\v.tmod n < n:=by
 have h1:=Int.tmod_eq_emod (a:=v) (b:=n);have h2:=zb7 v (b:=n) (by omega);have h3:=zcj v (b:=n) (by omega);rw [h1];rcases Decidable.em (0<=v∨n ∣ v) with hv | hv
 ·rw [if_pos hv];omega
 ·rw [if_neg hv];omega
theorem ah6(c:Cfg):Frz 9 (.agg c.av):=mW λx hx=> by
 simp only [Cfg.av,zaj,zay,or_false] at hx;rcases hx with rfl | rfl | rfl | rfl | rfl | rfl | rfl | rfl <;> first | exact gq | exact uM
theorem adk {β:Type}{w:Option Nat}{H H':ah}{k:Option β}(h:∀r,w=some r->H'.get r=H.get r):ck w H H' k=k:=if_pos h
theorem JU {H1:ah}{n d m k:Nat}{x:AV}{cells:List AV}(c:Own n H1 x m cells)(hm:0 < m)(hl:cells.length=k*m)(hz:∀y∈cells,bV H1 n d y=some y)(hk:k≠0):bV H1 n (d+1) x=some (.vs k m cells):=by
 rcases c with⟨rfl,rfl⟩ | ⟨r,g,off,n',cap,ex,ty,all,rfl,k2,k3,k4,k5,k6,k7,rfl⟩
 ·simp only [zan] at hl;rcases zc1.1 hl.symm with h | h <;> omega
 ·have hcm:n'*m<=cap*m:=zaB _ k4;rw [zax,zaL,zbr (by omega)] at hl;have:n'=k:=zbH hm hl;subst this;exact mV k2 (cells:=(all.drop off).take (n'*m)) (by simp only [dw,k5];rw [if_pos ⟨trivial,by omega⟩]) (iR _ hz)
def oN(c:Cfg)(n:Nat):List Row:=(List.range n).map λ(i:Nat)=> (⟨0,-1,c.first (i:Int)⟩:Row)
theorem BK.ext {g g':bD}{a:Nat->Nat}{c:Cfg}{me:Int}{n:jK}(h:BK g a c me n)(hd:∀q cs,g q=some cs->¬ahi cs->g' q=some cs)(hg:∀s,s < 3->g' (a s)=g (a s)):BK g' a c me n:=by
 obtain⟨⟨d,⟨x,d1,d2⟩,h0⟩,⟨cells,k,h1⟩,⟨dH,r,h2⟩⟩:=h;exact⟨⟨d,⟨x,d1.sub hd,d2⟩,by rw [hg 0 (by omega),h0]⟩,⟨cells,k.mono λe cs _ ⟨x,e1,e2⟩=> ⟨x,e1.sub hd,e2⟩,by rw [hg 1 (by omega),h1]⟩,⟨dH,r.mono λe cs _ ⟨x,e1,e2⟩=> ⟨x,e1.sub hd,e2⟩,by rw [hg 2 (by omega),h2]⟩⟩
theorem BK.inj {g:bD}{a:Nat->Nat}{c:Cfg}{me:Int}{n:jK}(h:BK g a c me n){s t:Nat}(hs:s < 3)(ht:t < 3)(e:a s=a t):s=t:=by
 obtain⟨⟨d,⟨x,_,rfl⟩,h0⟩,⟨_,_,h1⟩,⟨_,_,h2⟩⟩:=h;have hh:(g (a s)).map List.length=(g (a t)).map List.length:=by rw [e]
 match s,hs,t,ht with
 | 0,_,0,_ | 1,_,1,_ | 2,_,2,_=> rfl
 | 0,_,1,_ | 0,_,2,_ | 1,_,0,_ | 1,_,2,_ | 2,_,0,_ | 2,_,1,_=> simp [h0,h1,h2,ae0,YZ,Y0,bJ.avx,Cfg.av] at hh
theorem adl(a b:Bool):bi .neq 4 (B a) (B b)=some (B (!decide (a=b))):=by
 cases a <;> cases b <;> kernel_rfl
theorem ah7(H:ah){x y:AV}{l:List Int}(hl:l.length < 1000000000)(hx:aW H x 1 l.length (l.map I))(hy:aW H y 1 l.length (l.map I)):cl 24 [x,y] H=some (B true,H):=by
 refine bU rfl rfl (aoW _ _ _ _) ?_ gq;have e1:=hx.guard.lnS;have e2:=hy.guard.lnS;have key:∀k i,i+k=l.length->GH cl [x,y,I i] H.guard=some (B true,H.guard):=by
  intro k
  induction k with
  | zero=>
   intro i hi;have h1:¬(i:Int) < l.length:=by omega
   rw [Zh];simp only [xq_,e1,h1]
  | succ k ih=>
   intro i hi;have h1:(i:Int) < l.length:=by omega
   have h6:(i:Int)+1=((i+1:Nat):Int):=by omega
   have h7:=wrap_i64 (a:=((i+1:Nat):Int)) (by omega) (by omega);have s1:=hx.guard.ix (k:=.i64) (i:=(i:Int)) (by omega) h1;have s2:=hy.guard.ix (k:=.i64) (i:=(i:Int)) (by omega) h1;rw [zat] at s1 s2;have t1:=hx.guard.ld (i:=i) (by omega);have t2:=hy.guard.ld (i:=i) (by omega);rw [zaR,zab (show i < l.length by omega)] at t1 t2;have r1:=ih (i+1) (by omega);rw [Zh];simp only [xq_,e1,h1,s1,s2,t1,t2,eq_self,zae,dF,h6,h7,r1]
 have r1:=key l.length 0 (by omega);have r1':GH cl [x,y,I 0] H.guard=some (B true,H.guard):=r1;simp only [xq_,akz,e1,e2,eq_self,zae,r1']
structure kE(H:ah)(x:AV)(l:List Int):Prop where
 is:aW H x 1 l.length (l.map I)
 one:One x
 nil:l=[]->x=zN
theorem pV(H:ah)(l:List Int):kE H (dat l) l:=⟨mQ H l,rW,λh=> by rw [h,dat,gZ]⟩
theorem kE.guard {H:ah}{x:AV}{l:List Int}(h:kE H x l):kE H.guard x l:=⟨h.is.guard,h.one,h.nil⟩
theorem kE.new {H:ah}{x:AV}{l:List Int}(h:kE H x l)(o:fU):kE (H.new o) x l:=⟨h.is.new o,h.one,h.nil⟩
theorem kE.jZ {H H':ah}{x:AV}{l:List Int}(h:kE H x l)(hn:H.next<=H'.next)(hg:∀r,r < H.next->H'.get r=H.get r):kE H' x l:=⟨h.is.jZ hn λr _ hr=> hg r hr,h.one,h.nil⟩
theorem ET {p:Pkt}{x:AV}(h:One x):(p.avx x).all AV.aX=true:=by simp [Pkt.avx,iE,kH,h.2]
theorem adn {p:Ent}{x:AV}(h:One x):(p.avx x).all AV.aX=true:=by simp [Ent.avx,iE,kH,h.2]
section
variable {b:Nat}{H H':ah}{g:bD}{q:Nat}{cs:List Cell}
theorem OS.own {τ:Nat->Option Tag}{T:Tag}{x:AV}{m:Nat}{l:List AV}(h:OS b H τ T x m l):Own b H x m l:=by
 rcases h with h | ⟨r,g,off,n,cap,ex,ty,all,k0,_,k2⟩
 ·exact .inl h
 ·exact .inr ⟨r,g,off,n,cap,ex,ty,all,k0,k2⟩
theorem Own.one {x:AV}{m:Nat}{l:List AV}(h:Own b H x m l):One x:=by
 rcases h with⟨rfl,_⟩ | ⟨r,g,off,n,cap,ex,ty,all,rfl,_⟩
 ·exact qm
 ·exact qX
theorem Vt {α:Type}:∀{es:List (Int × α)} {n:Int} {v:α},jg es n=some v->∃j:Nat,es[j]?=some (n,v)/\∀k,k < j->∀e,es[k]?=some e->e.1≠n
 | [],_,_,h=> by cases h
 | (k,w)::es,n,v,h=> by
  simp only [jg] at h;split at h
  ·rename_i e;subst e;cases h;exact⟨0,rfl,λk hk=> by omega⟩
  ·rename_i e;obtain⟨j,h1,h2⟩:=Vt h;refine⟨j+1,h1,λk hk x hx=> ?_⟩;cases k with
   | zero=> cases hx;exact e
   | succ k=> exact h2 k (by omega) x (by simpa using hx)
theorem G8 {α:Type}:∀{es:List (Int × α)} {n:Int},jg es n=none↔n∉es.map (·.1)
 | [],_=> by simp [jg]
 | (k,w)::es,n=> by
  simp only [jg];by_cases e:k=n
  ·simp [e]
  ·simp only [e,if_false,zaw,zaj,not_or];rw [G8];exact⟨λh=> ⟨λh'=> e h'.symm,h⟩,λh=> h.2⟩
theorem tN:∀(es:List (Int × AV)) (n:Int),qh es n=jg es n
 | [],_=> rfl
 | (k,w)::es,n=> by
  simp only [qh,jg];split
  ·rfl
  ·exact tN es n
theorem P7 {α β:Type}:∀{es:List (Int × α)} {az:List (Int × β)} {n:Int},az.map (·.1)=es.map (·.1)->(jg es n=none↔jg az n=none):=by
 intro es az n h;rw [G8,G8,h]
theorem G9 {α β:Type}:∀{es:List (Int × α)} {az:List (Int × β)} {n:Int} {v:α},az.map (·.1)=es.map (·.1)->jg es n=some v->∃(j:Nat) (w:β),jg az n=some w/\es[j]?=some (n,v)/\az[j]?=some (n,w)
 | [],_,_,_,_,h=> by cases h
 | (k,v0)::es,[],_,_,h,_=> by simp at h
 | (k,v0)::es,(k',w0)::az,n,v,h,h'=> by
  simp only [zaw,zbK] at h;obtain⟨rfl,h⟩:=h;simp only [jg] at h' ⊢;split at h'
  ·rename_i e;subst e;cases h';exact⟨0,w0,by simp,rfl,rfl⟩
  ·rename_i e;obtain⟨j,w,h1,h2,h3⟩:=G9 h h';exact⟨j+1,w,by simp only [e,if_false];exact h1,h2,h3⟩
theorem Good.maps(G:Good b H g)(h:g q=some cs){i m:Nat}{k:IntKind}{es:List (Int × List AV)}(hi:cs[i]?=some (.maps k m es)):
  ∃r,ld (.ref q 0 i) H=some (.mp r,H)/\lnM (.mp r) H=some (I es.length,H)/\∀z n,∃x,(jg es n=none->x=.s z)/\(∀l,jg es n=some l->Own b H x m l)/\∀ok,lk k z (.mp r) (.s (.int k n)) ok H=some ((if ok then .tup [x,B (jg es n).isSome] else x),H):=by
 obtain⟨h0,τ,hR⟩:=G;have R:=hR q cs h;obtain⟨ty,xs,h1,h2,h3,h4⟩:=R.blk;have hlt:i < xs.length:=by rw [h2];exact(zai.1 hi).1
 have hx:xs[i]?=some (xs[i]'hlt):=zab hlt;have:=h4 i _ _ hi hx;simp only [CR] at this;obtain⟨aes,⟨r,e,t1,t2,t3,t4⟩,a2,a3⟩:=this;rw [e] at hx;refine⟨r,by rw [kS h1,hx];rfl,?_,λz n=> ?_⟩
 ·simp only [lnM,kF,bQ,zak,aoB,t4];have:=congrArg List.length a2;simp only [zaD] at this;rw [this]
 ·cases hn:jg es n with
  | none=>
   have hf:qh aes n=none:=by rw [tN];exact(P7 a2).1 hn
   refine⟨.s z,λ_=> rfl,λl hl=> (by cases hl),λok=> ?_⟩;simp only [lk,kF,bQ,zak,lkO,t4,and_self,if_true,hf];cases ok <;> rfl
  | some l=>
   obtain⟨j,w,b1,b2,b3⟩:=G9 a2 hn;refine⟨w,λh=> (by cases h),λl' hl=> (by cases hl;exact(a3 j n l w b2 b3).own),λok=> ?_⟩;simp only [lk,kF,bQ,zak,lkO,t4,and_self,if_true,tN,b1];cases ok <;> rfl
end
theorem Hg(H:ah){l:List Int}(hl:l.length < 1000000000){x:AV}(hx:kE H x l):cl 36 [x] H=some (dat l,H):=by
 by_cases h:l=[]
 ·rw [hx.nil h];subst h;have t:=jL H [] (by simp);have z:dat ([]:List Int)=zN:=by simp [dat,gZ]
  rw [z] at t ⊢;exact t
 ·have h0:l.length≠0:=λe=> h (zas e);have e2:=sU (e:=3) (by_:=8) (r:=H.guard.next) (H:=H.guard.new (.blk 0 3 [])) qo (hx.is.guard.new _) (Ai l) h0 (by unfold most;omega) (by unfold most;omega);simp only [BF,fA] at e2;refine jq rfl rfl (Sm _ _ _ (r:=(.sl (H.next+1) 0 0 1 l.length l.length false,(H.guard.new (.blk 0 3 [])).new (.blk 0 (3+gV) (l.map I)))) ?_) ?_
  ·have e1:bi .eql 22 x zN=some (B false):=aW.aap Tryz.underlying22 hx.is h0;simp only [xq_,Px,e1,IG,yQ,e2,zbq,zaT]
  ·rw [yD h];refine mV (by omega) (cells:=l.map I) ?_ (iR _ λx hx=> xJ l x hx _ _);simp only [dw,jd,fA,BF,if_true];rw [if_pos (by simp),zaQ,zaz (by simp)]
theorem ML(e:Ent){d:Nat}:∀x∈e.av,Frz (d+2) x:=λx hx=> by
 simp only [Ent.av,zaj,zay,or_false] at hx;rcases hx with rfl | rfl | rfl | rfl | rfl | rfl <;> first | exact gq | exact uM
theorem ah8(e:Row){d:Nat}:∀x∈e.av,Frz (d+2) x:=λx hx=> by
 simp only [Row.av,zaj,zay,or_false] at hx;rcases hx with rfl | rfl | rfl <;> first | exact gq | exact uM
theorem uT:Ent.zero.av=[zI,zI,zI,zI,zB,zN]:=by simp [Ent.zero,Ent.av,dat,gZ]
theorem ado:Row.zero.av=[zI,zI,zN]:=by simp [Row.zero,Row.av,dat,gZ]
theorem Vu(H:ah)(e:Ent){x:AV}(hl:e.data.length < 1000000000)(hx:kE H x e.data):cl 83 [.agg (e.avx x)] H=some (.agg e.av,H):=by
 refine bU rfl rfl (apn _ _ _) ?_ (mW (ML e));have e1:=λo o'=> Hg ((H.guard.new o).new o') hl ((hx.guard.new o).new o');simp only [Nat.reduceLT,Nat.reduceAdd,aN,xq_,hq_,akX,aF,hx.one.2,Ent.avx,e1,Ent.av]
section
variable {b:Nat}{H:ah}{g:bD}{q:Nat}
theorem aq2(H:ah)(e:Ent){r:Nat}{aj:Int}(h:∀H':ah,H'.get=H.get->ld (.ref r 0 0) H'=some (I aj,H'))(hr:r < H.next):cl 126 [.agg e.av,.ref r 0 0] H=some (B (decide (e.aj=aj)),H):=by
 refine bU rfl rfl (ale _ _ _ _) ?_ gq;have e1:=h H.guard rfl;simp only [Nat.reduceLT,xq_,hq_,afk,aF,Ent.av,e1,hr]
theorem Hl(G:Good b H g){c:Cache}(h:g q=some (dn c))(hl:c.l.length < 1000000)(aj:Int):cl 82 [.ref q 0 0,I aj] H=some (I (ER (c.at_ aj)),H):=by
 refine bU rfl rfl (apm _ _ _ _) ?_ gq;have G1:=G.guard.new (.blk 0 3 [I aj]);obtain⟨x,hx,c1⟩:=G1.seq h (i:=0) rfl;have hs:=c1.is (by decide) (dR dS c.l);have e2:=PW (H.guard.new (.blk 0 3 [I aj])) (enc:=Ent.av) dS (f:=.fn (.func 126) [] [.ref H.next 0 0]) hs (by omega) (λe=> decide (e.aj=aj)) (λe _=> by
  rw [oM (by kernel_rfl)];exact aq2 _ e (λH' hg=> by rw [kS (g:=0) (ty:=3) (xs:=[I aj]) (by rw [hg];exact bF rfl)];rfl) (by rw [fA,BF];omega))
 have eb:jc 3 (I aj) H.guard=some (.ref H.next 0 0,H.guard.new (.blk 0 3 [I aj])):=rfl;simp only [xq_,akW,eb,hx,e2];rfl
theorem rE {α:Type}{p:α->Bool}:∀l:List α,(l.findIdx? p).bind (λi=> l[i]?)=l.find? p
 | []=> rfl
 | a::l=> by
  rw [zcF,List.find?_cons];cases h:p a with
  | true=> simp
  | false=>
   simp only [zah,if_false];rw [<-rE l];cases l.findIdx? p <;> simp
def oP(o:Option Ent):AV:=.tup [.agg (o.getD .zero).av,B o.isSome]
theorem WV(o:Option Ent):Frz 9 (oP o):=rY λx hx=> by
 simp only [zaj,zay,or_false] at hx;rcases hx with rfl | rfl
 ·exact mW (ML _)
 ·exact gq
theorem qF(G:Good b H g){c:Cache}(h:g q=some (dn c))(hl:c.l.length < 1000000)(hd:∀e∈c.l,e.data.length < 1000000000)(aj:Int):cl 41 [.ref q 0 0,I aj] H=some (oP (c.find aj),H):=by
 refine bU rfl rfl (ao3 _ _ _ _) ?_ (WV _);have G1:=G.guard.new (.blk 0 100 [zI,zI,zI,zI,zB,zN]);have e1:=Hl G1 h hl aj;have hf:c.find aj=(c.at_ aj).bind λi=> c.l[i]?:=(rE c.l).symm;cases ha:c.at_ aj with
 | none=>
  rw [ha] at e1 hf;have hn:ER (none:Option Nat)=-1:=rfl;rw [hn] at e1;simp only [Int.reduceLT,Int.reduceNeg,Nat.reduceAdd,aN,xq_,hq_,ahA,e1,aeo,jX,dX,hf,oP,uT,za1,zaG,Option.bind_none]
 | some i=>
  rw [ha] at e1 hf;have hi:i < c.l.length:=zbz.1 ha |>.1
  obtain⟨e,he⟩:∃e,c.l[i]?=some e:=⟨_,zab hi⟩
  have hn:ER (some i)=(i:Int):=rfl;rw [hn] at e1;have h0:¬(i:Int) < 0:=by omega
  obtain⟨x,hx,c1⟩:=G1.seq h (i:=0) rfl;have hs:=c1.is (by decide) (dR dS c.l);have e3:=hs.ix (k:=.i64) (i:=(i:Int)) (by omega) (by omega);rw [zat] at e3;have e4:=oH dS hs he;have e5:=λH=> Vu H e (hd e (zaq he)) (pV H e.data);have e6:e.avx (dat e.data)=e.av:=rfl;rw [e6] at e5;have hf':c.find aj=some e:=by rw [hf];exact he
  simp only [Nat.reduceAdd,aN,xq_,hq_,ahA,e1,h0,hx,e3,e4,e5,hf',oP,zar,zaI]
theorem am9(G:Good b H g){c:Cfg}{dH:Rows}(h:g q=some (DJ c dH))(hd:∀e∈dH,e.2.data.length < 1000000000)(aj:Int):cl 124 [.ref q 0 0,I aj] H=some (.tup [.agg (jo dH aj).av,B (jg dH aj).isSome],H):=by
 refine bU rfl rfl (alb _ _ _ _) ?_ (rY λx hx=> ?_)
 ·have G1:=G.guard.new (.blk 0 95 [zI,zI,zN]);obtain⟨r,f1,f2,_⟩:=G1.map h (i:=8) rfl;have f3:=f2 (.agg #[.int .i64 0,.int .i64 0,.slice none 0 0]) aj true;rw [xu] at f3;cases hr:jg dH aj with
  | none=>
   have e5:=λH=> jL H [] (by simp);have z0:dat ([]:List Int)=zN:=by simp [dat,gZ]
   rw [z0] at e5;have zc:AV.cells (.s (.agg #[.int .i64 0,.int .i64 0,.slice none 0 0]))=[zI,zI,zN]:=rfl;simp only [hr,zc0,if_true] at f3;have zn:zN.aX=true:=rfl;have zn':zN.cells=[zN]:=rfl;simp only [Nat.reduceAdd,aN,xq_,hq_,Zx,f1,f3,zc,e5,jo,hr,ado,za1,zaG,zn,zn']
  | some w=>
   simp only [hr,zak,if_true] at f3;have hm:w.data.length < 1000000000:=by
    obtain⟨j,hj,_⟩:=Vt hr;exact hd _ (zaq hj)
   have e5:=λH=> jL H w.data hm;simp only [Nat.reduceAdd,aN,xq_,hq_,Zx,f1,f3,Row.av,e5,jo,hr,zar,zaI]
 ·simp only [zaj,zay,or_false] at hx;rcases hx with rfl | rfl
  ·exact mW (ah8 _)
  ·exact gq
theorem WW(G:Good b H g){t:Turns}(h:g q=some (iC t))(aj:Int):cl 85 [.ref q 0 0,I aj] H=some (I (t.owner aj),H):=by
 refine bU rfl rfl (apq _ _ _ _) ?_ gq;obtain⟨r,f1,f2,_⟩:=G.guard.map h (i:=0) rfl;have f3:=f2 (.int .i64 0) aj true;rw [xu] at f3;cases hr:jg t.fP aj with
 | none=>
  simp only [hr,zc0,if_true] at f3;simp only [Int.reduceNeg,xq_,ahH,f1,f3,Turns.owner,hr,za1]
 | some w=>
  simp only [hr,zak,if_true] at f3;simp only [Int.reduceNeg,xq_,ahH,f1,f3,Turns.owner,hr,zar]
theorem xM(G:Good b H g){t:Turns}(h:g q=some (iC t))(aj:Int):cl 225 [.ref q 0 0,I aj] H=some (B (t.owned aj),H):=by
 refine bU rfl rfl (amH _ _ _ _) ?_ gq;obtain⟨r,f1,f2,_⟩:=G.guard.map h (i:=0) rfl;have f3:=f2 (.int .i64 0) aj true;rw [xu] at f3;cases hr:jg t.fP aj with
 | none=>
  simp only [hr,zc0,if_true] at f3;simp only [xq_,ZY,f1,f3,Turns.owned,hr,zaG]
 | some w=>
  simp only [hr,zak,if_true] at f3;simp only [xq_,ZY,f1,f3,Turns.owned,hr,zaI]
def IK(w:Int × Int):List AV:=[I w.1,I w.2]
theorem MN {α β:Type}(f:α->β):∀(es:List (Int × α)) (n:Int),jg (es.map λe=> (e.1,f e.2)) n=(jg es n).map f
 | [],_=> rfl
 | (k,v)::es,n=> by
  simp only [zaw,jg];split
  ·rfl
  ·exact MN f es n
theorem ana(G:Good b H g){t:Turns}(h:g q=some (iC t))(aj:Int):∃r x,ld (.ref q 0 1) H=some (.mp r,H)/\lk .i64 (.slice none 0 0) (.mp r) (I aj) false H=some (x,H)/\Own b H x 2 ((t.ws aj).flatMap IK):=by
 obtain⟨r,f1,_,f2⟩:=G.maps h (i:=1) rfl;obtain⟨x,x1,x2,x3⟩:=f2 (.slice none 0 0) aj;refine⟨r,x,f1,x3 false,?_⟩;rw [MN (λl:List (Int × Int)=> l.flatMap λw=> [I w.1,I w.2])] at x1 x2;simp only [show(λw:Int × Int=> [I w.1,I w.2])=IK from rfl] at x1 x2;cases hr:jg t.wait aj with
 | none=>
  rw [hr] at x1;exact .inl ⟨x1 rfl,by simp [Turns.ws,hr]⟩
 | some w=>
  rw [hr] at x2;have:=x2 _ rfl
  simpa [Turns.ws,hr] using this
theorem wQ(G:Good b H g){t:Turns}(h:g q=some (iC t))(aj:Int):cl 226 [.ref q 0 0,I aj] H=some (I (t.ws aj).length,H):=by
 refine bU rfl rfl (amI _ _ _ _) ?_ gq;obtain⟨r,x,f1,f2,f3⟩:=ana G.guard h aj;have e:=(f3.is (n:=(t.ws aj).length) (by decide) (dR (enc:=IK) (λ_=> rfl) _)).lnS;simp only [xq_,agl,f1,f2,e]
theorem adp {e m by_ r ty:Nat}{y:AV}{H:ah}(hx:H.get r=.blk 0 ty [])(hy:aW H y m 0 []):app e m by_ (.sl r 0 0 m 0 0 true) y H=some (.sl r 0 0 m 0 0 true,H):=by
 obtain⟨c1,c2⟩:=hy.Dn;simp only [app,c1,c2,dW];rw [if_pos ⟨by simp,rfl⟩];simp only [hx];rw [if_pos ⟨trivial,trivial,by simp⟩,if_pos trivial]
theorem S9(H:ah){l:List Int}(hl:l.length < 1000000000){x:AV}(hx:aW H x 1 l.length (l.flatMap QM))(hf:∀a:Int,∀z∈QM a,Frz 8 z)(ha:∀a:Int,(QM a).all AV.aX=true)(hm:∀a:Int,(QM a).length=1):∃y,cl 36 [x] H=some (y,H)/\∀H':ah,aW H' y 1 l.length (l.flatMap QM):=by
 by_cases hz:x=zN
 ·subst hz;have h0:l=[]:=by
   have h1:=hx.2.2.2;exact zas h1
  subst h0;refine⟨zN,jq rfl rfl (Sm _ _ _ (r:=(zN,H.guard)) ?_) jC,λ_=> aW.nil⟩;have e:bi .eql 22 zN zN=some (B true):=by kernel_rfl
  simp only [xq_,Px,e]
 ·have e1:bi .eql 22 x zN=some (B false):=by
   obtain⟨_,hx⟩:=hx;cases x with
   | sl r g o m n c ex=> exact BG Tryz.underlying22
   | vs n m l=> exact sV Tryz.underlying22
   | s v=>
    cases v with
    | slice a b c=>
     cases a with
     | none=> obtain⟨rfl,rfl,_⟩:=hx;exact absurd rfl hz
     | some a=> exact hx.elim
    | _=> exact hx.elim
   | _=> exact hx.elim
  let H1:=H.guard.new (.blk 0 3 []);have x1:aW H1 x 1 l.length (l.flatMap QM):=hx.guard.new _;by_cases h:l=[]
  ·subst h;have e2:=adp (e:=3) (by_:=8) (r:=H.next) (H:=H1) (bF rfl) x1;refine⟨.vs 0 1 [],jq rfl rfl (Sm _ _ _ (r:=(.sl H.next 0 0 1 0 0 true,H1)) ?_) ?_,λ_=> aW.vs rfl⟩
   ·simp only [H1] at e2;simp only [xq_,Px,e1,IG,yQ,e2,zbq,zaT];rfl
   ·refine mV (zac _) (cells:=[]) ?_ rfl;have:H1.get H.next=.blk 0 3 []:=bF rfl
    simp only [dw,this];rfl
  ·have h0:l.length≠0:=λe=> h (zas e);have e2:=sU (e:=3) (by_:=8) (r:=H.next) (H:=H1) (bF rfl) x1 (UH ha l) h0 (by unfold most;omega) (by unfold most;omega);refine⟨.vs l.length 1 (l.flatMap QM),jq rfl rfl (Sm _ _ _ (r:=(.sl (H.next+1) 0 0 1 l.length l.length false,H1.new (.blk 0 (3+gV) (l.flatMap QM)))) ?_) ?_,λ_=> aW.vs (dR hm l)⟩
   ·have n1:H1.next=H.next+1:=rfl
    rw [n1] at e2;simp only [H1] at e2;simp only [xq_,Px,e1,IG,yQ,e2,zbq,zaT];rfl
   ·refine mV (by omega) (cells:=l.flatMap QM) ?_ (iR _ λz hz=> Vp hf l z hz _ _);have:(H1.new (.blk 0 (3+gV) (l.flatMap QM))).get (H.next+1)=.blk 0 (3+gV) (l.flatMap QM):=bF rfl;simp only [dw,this];rw [if_pos ⟨trivial,by rw [dR hm];omega⟩,zaQ,zaz (by rw [dR hm];exact zac _)]
theorem aax {x:AV}{m n:Nat}{cells:List AV}(h:∀H':ah,aW H' x m n cells)(hz:∀z∈cells,Frz 8 z):Frz 9 x:=by
 have h0:=h ah.empty;obtain⟨hl,h1⟩:=h0;cases x with
 | sl r g o m n c ex=> exact absurd h1.2.2.1.1 (by simp [ah.empty])
 | vs n m l=> obtain⟨_,_,rfl⟩:=h1;exact aeN hz
 | s v=> exact gq
 | _=> exact h1.elim
theorem WX(G:Good b H g){p:Proc}(h:g q=some (pU p))(h2:p.bH.length < 1000):∃x,cl 26 [.ref q 0 0] H=some (x,H)/\∀H':ah,aW H' x 1 p.bH.length (p.bH.map I):=by
 obtain⟨x,hx,c⟩:=G.guard.seq h (i:=1) rfl;obtain⟨y,e,hy⟩:=S9 H.guard (l:=p.bH) (by omega) (by rw [zA];exact c.is (by decide) (by simp)) (λa z hz=> by simp only [QM,zaM] at hz;subst hz;exact gq) (λ_=> rfl) (λ_=> rfl);rw [zA] at hy;refine⟨y,bU rfl rfl (aoY _ _ _) ?_ (aax hy (xJ _)),hy⟩;simp only [xq_,akA,hx,e]
theorem Vw(G:Good b H g){A:Adr}{m:dZ}(M:iM g A m)(hn:m.aG.length < 1000)(i:Int):cl 25 [.ref A.je 0 0,I i] H=some (if 0<=i/\i < m.aG.length then .ref (A.N i.toNat 0) 0 0 else zP,H):=by
 obtain⟨x,hx,c⟩:=G.guard.seq M.je (i:=10) rfl;have hs:=c.is (n:=m.aG.length) (by decide) (wP _ _);have e2:=hs.lnS;have hall:bV H.guard H.next 9 (if 0<=i/\i < m.aG.length then .ref (A.N i.toNat 0) 0 0 else zP)=some (if 0<=i/\i < m.aG.length then .ref (A.N i.toNat 0) 0 0 else zP):=by
  split
  ·rename_i h;obtain⟨n,hn⟩:∃n,m.aG[i.toNat]?=some n:=⟨_,zab (by omega)⟩
   have:=G.lt (M.bG _ n hn).1;rw [bV];simp only [this,if_true]
  ·exact jC
 refine jq rfl rfl (aoX _ _ _ _ (r:=(_,H.guard)) ?_) hall;by_cases h0:i < 0
 ·have:¬(0<=i/\i < m.aG.length):=by omega
  rw [if_neg this];simp only [xq_,acM,h0]
 ·by_cases h1:(m.aG.length:Int)<=i
  ·have:¬(0<=i/\i < m.aG.length):=by omega
   rw [if_neg this];simp only [xq_,acM,h0,hx,e2,h1]
  ·have:0<=i/\i < m.aG.length:=by omega
   rw [if_pos this];have e3:=hs.ix (k:=.i64) (i:=i) (by omega) (by omega);have e4:=hs.ld (i:=i.toNat) (by omega);rw [GZ (by omega)] at e4;simp only [xq_,acM,h0,hx,e2,h1,e3,e4]
end
def wR:List (List Pkt)->Nat->Int->Option (Nat × Int)
 | [],_,_=> none
 | l::ls,j,at_=> if 0<=at_/\at_ < l.length then some (j,at_) else wR ls (j+1) (at_ - l.length)
theorem tV:∀{ls:List (List Pkt)} {j:Nat} {at_:Int} {j':Nat} {k:Int},wR ls j at_=some (j',k)->j<=j'/\∃l,ls[j' - j]?=some l/\0<=k/\k < l.length/\0<=at_/\ls.flatten[at_.toNat]?=l[k.toNat]?
 | [],_,_,_,_,h=> by cases h
 | l::ls,j,at_,j',k,h=> by
  simp only [wR] at h;split at h
  ·rename_i hc;cases h;refine⟨zac _,l,by simp,hc.1,hc.2,hc.1,?_⟩;rw [zdG,zaN (by omega)]
  ·rename_i hc;obtain⟨h1,l',h2,h3,h4,h5,h6⟩:=tV h;refine⟨by omega,l',by rw [show j' - j=(j' - (j+1))+1 by omega];simpa using h2,h3,h4,by omega,?_⟩;rw [zdG,za0 (by omega),<-h6]
   congr 1;omega
theorem Cm:∀{ls:List (List Pkt)} {j:Nat} {at_:Int},wR ls j at_=none->at_ < 0∨(ls.flatten.length:Int)<=at_
 | [],_,_,_=> by simp;omega
 | l::ls,j,at_,h=> by
  simp only [wR] at h;split at h
  ·cases h
  ·rename_i hc;have:=Cm h;rw [zdG,zao];omega
theorem CB:∀l:List Port,(l.flatMap λp=> [p.rq,p.an]).flatten=l.flatMap λp=> p.rq++p.an
 | []=> rfl
 | p::l=> by simp [CB l]
def kJ(P:Nat->Nat->Nat)(j:Nat):List AV:=[.ref (P (j / 2) (if j % 2=0 then 0 else 2)) 0 0,.ref (P (j / 2) (if j % 2=0 then 1 else 3)) 0 0]
theorem P8 {P:Nat->Nat->Nat}{n j:Nat}(h:j < 2*n):((iH P n).drop (j*2)).take 2=kJ P j:=by
 have hi:j / 2 < n:=by omega
 have hfl:=uK (m:=4) (enc:=λi=> nV (P i)) (λ_=> rfl) (List.range n) (j / 2) (j / 2) (zbB hi);rcases Nat.mod_two_eq_zero_or_one j with h0 | h0
 ·have e:((iH P n).drop (j*2)).take 2=(((iH P n).drop (j / 2*4)).take 4).take 2:=by
   rw [zb0,show j / 2*4=j*2 by omega];rfl
  rw [e];refine(congrArg (List.take 2) hfl).trans ?_;simp [kJ,h0,nV]
 ·have e:((iH P n).drop (j*2)).take 2=((((iH P n).drop (j / 2*4)).take 4).drop 2).take 2:=by
   rw [zcf,zbE,zb0,show j / 2*4+2=j*2 by omega];rfl
  rw [e];refine(congrArg (λl=> (List.drop 2 l).take 2) hfl).trans ?_;simp [kJ,h0,nV]
theorem aay {g:bD}{f:Nat}{P:Nat->Nat->Nat}{c:Cfg}{fab:Fab}(F:gY g f P c fab){j:Nat}{l:List Pkt}(h:fab.iV[j]?=some l):
  g (P (j / 2) (if j % 2=0 then 0 else 2))=some (mZ l c.out):=by
 have hj:j < 2*fab.l.length:=by
  have:=(zai.1 h).1
  rwa [Fab.iV,qE] at this
 obtain⟨l',a,a',h1,h2,h3⟩:=F.agx hj;rw [h] at h1;cases h1;rw [P8 hj] at h2;simp only [kJ,zbK,AV.ref.injEq,and_true] at h2;rw [h2.1];exact h3
section
variable {b:Nat}{H:ah}{g:bD}{f:Nat}{P:Nat->Nat->Nat}{c:Cfg}{fab:Fab}
def wS(P:Nat->Nat->Nat):Option (Nat × Int)->AV
 | some (j,k)=> .tup [.agg (kJ P j),I k,B true]
 | none=> .tup [.agg [zP,zP],I 0,B false]
theorem aaz(G:Good b H g)(F:gY g f P c fab)(hn:fab.l.length < 1000)(h0:fab.l.length≠0)(hr:∀l∈fab.iV,l.length < 1000)(at_:Int)(h64:zH at_):
  cl 69 [.ref f 0 0,I at_] H=some (wS P (wR fab.iV 0 at_),H):=by
 have hpl:fab.iV.length=2*fab.l.length:=qE _;have hpx:(iH P fab.l.length).length=(2*fab.l.length)*2:=by rw [iH,oJ];omega
 let H0:=H.guard.new (.blk 0 121 [zP,zP]);have ep:=Vr (G.guard.new (.blk 0 121 [zP,zP])) F hn h0;have xs:∀H':ah,aW H' (.vs (2*fab.l.length) 2 (iH P fab.l.length)) 2 (2*fab.l.length) (iH P fab.l.length):=λH'=> aW.vs hpx;let fnd:=wR fab.iV 0 at_;have key:∀k j,j+k=2*fab.l.length->∀(Hi:ah) (a:Int),H0.next<=Hi.next->Hi.base=H.next->(∀r,r < H0.next->Hi.get r=H0.get r)->zH a->
   ((0<=a/\fnd=wR (fab.iV.drop j) j a)∨((a < 0∨9223372036854775808 - 1000 - 1000*(j:Int)<=a)/\fnd=none))->
   (LQ cl [I a,.ref H.next 0 0,.vs (2*fab.l.length) 2 (iH P fab.l.length),I (2*fab.l.length:Nat),I j] Hi).map Prod.fst=some (wS P fnd):=by
  intro k
  induction k with
  | zero=>
   intro j hj Hi a n1 b1 s1 ha hc;have h1:¬(j:Int) < (2*fab.l.length:Nat):=by omega
   have hf:fnd=none:=by
    rcases hc with⟨_,hc⟩ | ⟨_,hc⟩
    ·rw [hc,zaS (by omega)];rfl
    ·exact hc
   have g0:Hi.get H.next=.blk 0 121 [zP,zP]:=by rw [s1 _ (by show H.next < H.next+1;omega)];exact bF rfl
   have hb1:Hi.base<=H.next:=by omega
   have e0:bd 121 []=some (.agg [zP,zP]):=by simp only [xq_,aer,jX,gI]
   have e1:=aeX (H:=Hi) (r:=H.next) (off:=0) (n:=2) (v:=.agg [zP,zP]) g0 hb1 rfl rfl (by decide);rw [hf,Zo];have e2:=gy (H:=Hi.put H.next (.blk 0 121 (aN [zP,zP] 0 [zP,zP]))) (r:=H.next) (off:=0) (n:=2) (g:=0) (ty:=121) (xs:=[zP,zP]) O8 (by decide);have hs:aN [zP,zP] 0 [zP,zP]=[zP,zP]:=rfl;simp only [fJ,hs] at e1 e2;simp only [Nat.reduceAdd,aN,xq_,hq_,h1,e0,e1,e2,wS]
  | succ k ih=>
   intro j hj Hi a n1 b1 s1 ha hc;have h1:(j:Int) < (2*fab.l.length:Nat):=by omega
   have h6:(j:Int)+1=((j+1:Nat):Int):=by omega
   have h7:=wrap_i64 (a:=((j+1:Nat):Int)) (by omega) (by omega);have a1:=(xs Hi).ix (k:=.i64) (i:=(j:Int)) (by omega) h1;rw [zat] at a1;have a3:=(xs Hi).lda (i:=j) (by omega);rw [P8 (by omega)] at a3;obtain⟨l,hl⟩:∃l,fab.iV[j]?=some l:=⟨_,zab (by omega)⟩
   have p3:=aay F hl;have hlen:=hr l (zaq hl);let H1:=Hi.new (.blk 0 121 (kJ P j));have G1:Good b H1 g:=(((G.guard.new _).ext n1 s1).new _)
   have e3:=aar G1 p3;have sb:Hi.base<=Hi.next:=by have:H.next+1<=Hi.next:=n1;omega
   have lt0:H.next < Hi.next:=n1
   have hd:fab.iV.drop j=l::fab.iV.drop (j+1):=by
    rw [zbA (by omega)];rw [zab (by omega)] at hl;rw [zaZ hl]
   rw [Zo];simp only [H1,kJ] at e3;by_cases hin:0<=a/\a < l.length
   ·have hf:fnd=some (j,a):=by
     rcases hc with⟨_,hc⟩ | ⟨hc,_⟩
     ·rw [hc,hd,wR,if_pos hin]
     ·omega
    have g0:Hi.get H.next=.blk 0 121 [zP,zP]:=by rw [s1 _ (by show H.next < H.next+1;omega)];exact bF rfl
    have hb1:Hi.base<=H.next:=by omega
    have e1:=aeX (H:=Hi.new (.blk 0 121 (kJ P j))) (r:=H.next) (off:=0) (n:=2) (v:=.agg (kJ P j)) (by rw [cZ lt0];exact g0) (by rw [jy];exact hb1) rfl rfl (by decide);have e2:=gy (H:=(Hi.new (.blk 0 121 (kJ P j))).put H.next (.blk 0 121 (aN [zP,zP] 0 (kJ P j)))) (r:=H.next) (off:=0) (n:=2) (g:=0) (ty:=121) (xs:=aN [zP,zP] 0 (kJ P j)) O8 (by simp [kJ,aN]);simp only [fJ,kJ] at e1 e2;have hs:∀x y:AV,aN [zP,zP] 0 [x,y]=[x,y]:=λ_ _=> rfl;have h0:=hin.1;have h2:=hin.2;rw [hf];simp only [hs] at e1 e2;simp only [Nat.reduceAdd,aN,xq_,hq_,h1,a1,a3,kJ,sb,h0,h2,e3,e1,e2,wS]
   ·have hw:∃a',IntKind.wrap .i64 (a - l.length)=a'/\zH a'/\((0<=a'/\fnd=wR (fab.iV.drop (j+1)) (j+1) a')∨((a' < 0∨9223372036854775808 - 1000 - 1000*((j+1:Nat):Int)<=a')/\fnd=none)):=by
     rcases hc with⟨hc0,hc⟩ | ⟨hc,hn⟩
     ·refine⟨a - l.length,wrap_i64 (by omega) (by have:=ha.2;omega),⟨by omega,by have:=ha.2;omega⟩,.inl ⟨by omega,?_⟩⟩;rw [hc,hd,wR,if_neg hin]
     ·by_cases hlow:-9223372036854775808<=a - l.length
      ·refine⟨a - l.length,wrap_i64 hlow (by have:=ha.2;omega),⟨hlow,by have:=ha.2;omega⟩,.inr ⟨?_,hn⟩⟩;rcases hc with hc | hc
       ·left;omega
       ·right;omega
      ·refine⟨a - l.length+18446744073709551616,?_,⟨by have:=ha.1;omega,by omega⟩,.inr ⟨.inr (by have:=ha.1;omega),hn⟩⟩;have:a - l.length+18446744073709551616=IntKind.wrap .i64 (a - l.length):=by
        simp [IntKind.wrap,IntKind.signed,IntKind.bits];have:=ha.1;omega
       exact this.symm
    obtain⟨a',w1,w2,w3⟩:=hw;have r1:=ih (j+1) (by omega) (Hi.new (.blk 0 121 (kJ P j))) a' (zbR n1) b1 (λr hr=> by rw [cZ (by omega)];exact s1 r hr) w2 w3;simp only [kJ] at r1;by_cases h0:0<=a
    ·have h2:¬a < l.length:=by omega
     simp only [Nat.reduceAdd,aN,xq_,hq_,h1,a1,a3,kJ,sb,h0,h2,e3,jR,w1,dF,h6,h7,r1]
    ·simp only [Nat.reduceAdd,aN,xq_,hq_,h1,a1,a3,kJ,sb,h0,e3,jR,w1,dF,h6,h7,r1]
 have r1:=key (2*fab.l.length) 0 (by omega) H0 at_ (zac _) rfl (λ_ _=> rfl) h64 (by
  by_cases h:0<=at_
  ·exact .inl ⟨h,rfl⟩
  ·refine .inr ⟨.inl (by omega),?_⟩;cases hf:wR fab.iV 0 at_ with
   | none=> exact hf
   | some r=>
    obtain⟨j,k⟩:=r;obtain⟨_,l,_,_,_,h5,_⟩:=tV hf;omega)
 have hz:∀Hz,bV Hz H.next 9 (wS P fnd)=some (wS P fnd):=by
  intro Hz;cases hf:fnd with
  | none=> exact rY (λx hx=> by
    simp only [zaj,zay,or_false] at hx;rcases hx with rfl | rfl | rfl
    ·exact mW (λx hx=> by
      simp only [zaj,zay,or_false] at hx;rcases hx with rfl | rfl <;> exact gq)
    ·exact gq
    ·exact gq) Hz _
  | some r=>
   obtain⟨j,k⟩:=r;obtain⟨_,l,hl,_⟩:=tV hf;rw [Nat.sub_zero] at hl;have hj:j / 2 < fab.l.length:=by
    have:=(zai.1 hl).1;omega
   have l1:=F.lt G (i:=j / 2) (s:=if j % 2=0 then 0 else 2) hj (by split <;> omega);have l2:=F.lt G (i:=j / 2) (s:=if j % 2=0 then 1 else 3) hj (by split <;> omega);refine JA λx hx=> ?_;simp only [zaj,zay,or_false] at hx;rcases hx with rfl | rfl | rfl
   ·refine Jz λx hx=> ?_;simp only [kJ,zaj,zay,or_false] at hx;rcases hx with rfl | rfl
    ·rw [bV];exact if_pos l1
    ·rw [bV];exact if_pos l2
   ·exact jC
   ·exact jC
 cases hs:WJ cl (.ref f 0 0) (I at_) H.guard with
 | none=>
  exfalso;have e2:=(xs H0).lnS;simp only [H0] at ep e2 r1;have:(WJ cl (.ref f 0 0) (I at_) H.guard).map Prod.fst=some (wS P fnd):=by
   simp only [xq_,WJ,ep,e2];exact r1
  rw [hs] at this;cases this
 | some r=>
  have e2:=(xs H0).lnS;simp only [H0] at ep e2 r1;have:(WJ cl (.ref f 0 0) (I at_) H.guard).map Prod.fst=some (wS P fnd):=by
   simp only [xq_,WJ,ep,e2];exact r1
  rw [hs] at this;simp only [zak,zaa] at this;obtain⟨v,Hz⟩:=r;simp only at this;subst this;exact jq rfl rfl (aph _ _ _ _ hs) (hz Hz)
def Fab.pkt(f:Fab)(at_:Int):Option Pkt:=if at_ < 0 then none else f.all[at_.toNat]?
theorem aaA(G:Good b H g)(F:gY g f P c fab)(hn:fab.l.length < 1000)(h0:fab.l.length≠0)(hr:∀l∈fab.iV,l.length < 1000/\∀p∈l,p.data.length < 1000000000)(at_:Int)(h64:zH at_):
  cl 28 [.ref f 0 0,I at_] H=some (iy (fab.pkt at_),H):=by
 have G1:=G.guard.new (.blk 0 81 [zI,zI,zI,zI,zI,zI,zI,zB,zN]);have e1:=aaz G1 F hn h0 (λl hl=> (hr l hl).1) at_ h64;have hall:fab.iV.flatten=fab.all:=CB fab.l;refine bU rfl rfl (ao0 _ _ _ _) ?_ (Cc _);cases hf:wR fab.iV 0 at_ with
 | none=>
  rw [hf] at e1;have hp:fab.pkt at_=none:=by
   have:=Cm hf;rw [hall] at this;unfold Fab.pkt;split
   ·rfl
   ·rw [zaK (by omega)]
  have zc:([zP,zP]:List AV).all AV.aX=true:=rfl;simp only [Nat.reduceAdd,aN,xq_,hq_,ahx,e1,wS,zc,yO,jX,dX,hp,iy,fE,za1,zaG,zal]
 | some r=>
  obtain⟨j,k⟩:=r;rw [hf] at e1;obtain⟨_,l,h2,h3,h4,h5,h6⟩:=tV hf;rw [Nat.sub_zero] at h2;have p3:=aay F h2;have hp:fab.pkt at_=l[k.toNat]?:=by
   unfold Fab.pkt;rw [if_neg (by omega),<-hall,h6]
  have e2:=λo=> aaf (G1.new o) p3 (hr l (zaq h2)).1 (hr l (zaq h2)).2 k;have hk:¬k < 0:=by omega
  have ha:¬at_ < 0:=by omega
  simp only [hk,if_false] at e2;rw [hp];obtain⟨p,hpp⟩:∃p,l[k.toNat]?=some p:=⟨_,zab (by omega)⟩
  rw [hpp] at e2 ⊢;simp only [Nat.reduceAdd,aN,xq_,hq_,ahx,e1,wS,kJ,ha,e2,iy,zar,zaI,zae]
end
theorem Own.ref {b:Nat}{H:ah}{x:AV}{m n:Nat}{l:List AV}(o:Own b H x m l)(hm:0 < m)(hl:l.length=n*m){j:Nat}(hj:j < n):
  ∃r gg off,(∀k:IntKind,ix m x (.s (.int k j)) H=some (.ref r gg off,H))/\(∀k,k < m->ld (.ref r gg (off+k)) H=(l[j*m+k]?).map λv=> (v,H))/\lda m (.ref r gg off) H=some (.agg ((l.drop (j*m)).take m),H):=by
 have hs:=o.is hm hl;have hjm:(j+1)*m<=n*m:=zaB _ (by omega);rw [zbu,zbo] at hjm;rcases o with⟨_,h0⟩ | ⟨r,gg,off,n',cap,ex,ty,all,rfl,k2,k3,k4,k5,k6,k7,k8⟩
 ·rw [h0] at hl;simp only [zan] at hl;omega
 have hn:n'=n:=hs.2.2.1;subst hn;have hcm:n'*m<=cap*m:=zaB _ k4;refine⟨r,gg,off+j*m,λk=> ?_,λk hk=> ?_,?_⟩
 ·have:=hs.ix (k:=k) (i:=(j:Int)) (by omega) (by omega);rw [zat] at this;exact this
 ·rw [kS k5,k8,zaA,if_pos (by omega),zaC,zb9]
 ·rw [gy k5 (by omega),k8]
  congr 3
  rw [zcf,zbE,zb0,zbr (by omega)]
theorem Own.name {b:Nat}{H:ah}{m:Nat}{x:AV}{l:List AV}(c:Own b H x m l){r:Nat}(h:jf x=some r):b<=r/\r < H.next:=by
 rcases c with⟨rfl,_⟩ | ⟨r',g,off,n',cap,ex,ty,all,rfl,k2,k3,_⟩
 ·cases h
 ·simp only [jf,zaa] at h;omega
section
variable {b:Nat}{H:ah}{g:bD}{q f:Nat}{N:Nat->Nat->Nat}{m:kN}
structure kN.fine(m:kN):Prop where
 n:m.aG.length < 1000
 fab:m.fab.length=m.aG.length
 ah4:∀p∈m.fab,p.rq.length < 1000/\p.an.length < 1000/\p.rin.length < 1000/\p.ain.length < 1000
 ops:∀n∈m.aG,n.ops.length < 1000/\n.bH.length < 1000
end
structure Node.fine(n:Node):Prop where
 ops:n.bP.ops.length < 1000
 bH:n.bP.bH.length < 1000
 aI:n.aI.data.length < 1000000000
 aH:n.aH.l.length < 1000
 ents:∀e∈n.aH.l,e.data.length < 1000000000
 dH:∀e∈n.home.dH,e.2.data.length < 1000000000
structure jK.fine(n:jK):Prop where
 dH:n.homes.dH.length < 1000
 owner:n.homes.aT.owner.length < 1000000
 wait:n.homes.aT.wait.length < 1000000
theorem WY {l:List Ent}(h:l.Pairwise λa b=> a.aj < b.aj){a b:Ent}(ha:a∈l)(hb:b∈l)(e:a.aj=b.aj):a=b:=by
 induction h with
 | nil=> cases ha
 | cons h1 _ ih=>
  rcases zaj.1 ha with ha1 | ha1
  ·rcases zaj.1 hb with hb1 | hb1
   ·rw [ha1,hb1]
   ·have:=h1 b hb1;rw [ha1] at e;omega
  ·rcases zaj.1 hb with hb1 | hb1
   ·have:=h1 a ha1;rw [hb1] at e;omega
   ·exact ih ha1 hb1
theorem aoa.find {c:Cfg}{me:Int}{n:Node}{r:jK}(S:aoa c me n r){e:Ent}(he:e∈r.aH.l):n.aH.find e.aj=some e:=by
 unfold Cache.find;cases hf:n.aH.l.find? λx=> decide (x.aj=e.aj) with
 | none=>
  have:=zbF.1 hf e (S.perm.mem_iff.2 he);simp at this
 | some x=>
  have h1:=zbS hf;have h2:=za7 hf;simp only [decide_eq_true_eq] at h1;rw [WY S.sorted (S.perm.mem_iff.1 h2) he h1]
theorem P9 {α β:Type}{f:α->Int}{g:β->Int}:∀{l:List α} {l':List β},l.length=l'.length->(∀(i:Nat) a b,l[i]?=some a->l'[i]?=some b->f a=g b)->(l.map f).sum=(l'.map g).sum
 | [],[],_,_=> rfl
 | a::l,b::l',h,hf=> by
  simp only [zaw,zbX];rw [hf 0 a b rfl rfl,P9 (by simpa using h) λi a b ha hb=> hf (i+1) a b (by simpa using ha) (by simpa using hb)]
 | [],_::_,h,_=> by simp at h
 | _::_,[],h,_=> by simp at h
theorem Sim.left {m:dZ}{r:kN}(S:Sim m r):r.left=m.left:=by
 unfold kN.left dZ.left;refine P9 S.len λi a b ha hb=> ?_;have:=S.bG i b a hb ha;simp only [Proc.left,this.ops,this.bH]
theorem ah9 {f:Fab}{i:Nat}{p:Port}(h:f.l[i]?=some p):f.port i=p:=by
 unfold Fab.port;rw [zat,zaF,h];rfl
theorem WZ {f:Fab}{i:Nat}{p:Port}(h:f.l[i]?=some p):f.waiting i true=p.rin.length/\f.waiting i false=p.ain.length:=by
 have hi:=(zai.1 h).1;have:f.is i=true:=by simp only [Fab.is,zaf,decide_eq_true_eq];omega
 unfold Fab.waiting;simp only [this,if_true,ah9 h,Port.qL];exact⟨trivial,by simp⟩
theorem Sim.all {m:dZ}{r:kN}(S:Sim m r):r.all=m.fab.all:=by
 unfold kN.all Fab.all;rw [S.fab]
theorem Sim.quiet {m:dZ}{r:kN}(S:Sim m r)(hf:m.fab.l.length=m.aG.length):r.quiet=m.quiet:=by
 unfold kN.quiet dZ.quiet;have hb:∀i,i < m.aG.length->r.busy i=m.busy i:=by
  intro i hi;obtain⟨n,hn⟩:∃n,m.aG[i]?=some n:=⟨_,zab hi⟩
  obtain⟨rn,hr⟩:∃n,r.aG[i]?=some n:=⟨_,zab (by rw [S.len];exact hi)⟩
  obtain⟨p,hp⟩:∃p,m.fab.l[i]?=some p:=⟨_,zab (by omega)⟩
  have hp':r.fab[i]?=some p:=by rw [S.fab,hp]
  have N:=S.bG i n rn hn hr;obtain⟨w1,w2⟩:=WZ hp;simp only [kN.busy,dZ.busy,hn,hr,hp',w1,w2,N.eF,N.has];cases n.bP.eF <;> cases decide (n.aI.step=0) <;> simp <;> rw [zdq] <;> simp <;> omega
 rw [S.all,S.len];have:(List.range m.aG.length).all (λi=> !r.busy i)=(List.range m.aG.length).all λi=> !m.busy i:=by
  rw [zdq,za2,za2];constructor
  ·intro h i hi;rw [<-hb i (zaX.1 hi)];exact h i hi
  ·intro h i hi;rw [hb i (zaX.1 hi)];exact h i hi
 rw [this,Bool.and_comm];rfl
theorem aaB(H:ah)(aj fwd back:Int)(bZ:Bool){l:List Int}(hl:l.length < 1000000000){x:AV}(hx:kE H x l):cl 236 [I aj,I fwd,I back,B bZ,x] H=some (.agg (Ent.mk fwd back aj 0 bZ l).av,H):=by
 refine bU rfl rfl (amS _ _ _ _ _ _ _) ?_ (mW (ML _));have e1:=λo=> Hg (H.guard.new o) hl (hx.guard.new o);simp only [Nat.reduceAdd,Nat.reduceLeDiff,aN,xq_,hq_,agp,e1,aoF,aeo,jX,gI,ajL,aen,Ent.av]
theorem apC(H:ah)(e:Ent)(w:Int):cl 222 [.agg e.av,I w] H=some (B (decide (0<=w/\w < e.data.length)),H.new (.blk 0 100 e.av)):=by
 refine bg rfl rfl (agj _ _ _ _ ?_);have e1:=λH=> (mQ H e.data).lnS;by_cases h0:0<=w
 ·simp only [Nat.reduceLT,xq_,hq_,PK,aF,Ent.av,h0,e1]
 ·simp only [Nat.reduceLT,xq_,hq_,PK,aF,Ent.av,h0,false_and]
theorem aia(H:ah)(e:Ent)(w:Int):cl 189 [.agg e.av,I w] H=some (I (e.word w),H):=by
 refine bU rfl rfl (al5 _ _ _ _) ?_ gq;have e1:=λH=> apC H e w;by_cases h0:0<=w/\w < e.data.length
 ·have e2:=λH=> (mQ H e.data).ix (k:=.i64) (i:=w) h0.1 h0.2;have e3:=λH=> (mQ H e.data).ld (i:=w.toNat) (by omega);have e4:(e.data.map I)[w.toNat]?=some (I (e.word w)):=by
   unfold Ent.word;rw [if_pos h0,zaR,zab (by omega),zaF,zab (by omega)];rfl
  rw [e4] at e3;have e5:e.av[5]?=some (dat e.data):=rfl;simp only [Nat.reduceLT,xq_,hq_,ZP,aF,e1,h0,e2,e3,e5,zae]
 ·have:e.word w=0:=by unfold Ent.word;rw [if_neg h0]
  rw [this];simp only [Nat.reduceLT,xq_,hq_,ZP,aF,e1,h0,zal]
section
variable {b:Nat}{H:ah}{g:bD}{q:Nat}
theorem Vx(G:Good b H g){c:Cache}(h:g q=some (dn c))(hl:c.l.length < 1000000)(hs0:1<=c.sets)(aj:Int):cl 201 [.ref q 0 0,I aj] H=some (vsl 6 Ent.av (c.nT aj),H):=by
 obtain⟨x,hx,cx⟩:=G.guard.seq h (i:=0) rfl;have hs:=cx.is (n:=c.l.length) (by decide) (dR dS c.l);have e2:=hs.lnS;let p:Ent->Bool:=λe=> decide (0<=aj) && decide (e.aj.tmod c.sets=aj.tmod c.sets)
 let F:Nat->List Ent:=λj=> (c.l.take j).filter p
 have hF:∀j,(F j).length<=j:=λj=> zau (zcn _ _) (by rw [zax];omega);have key:∀k j,j+k=c.l.length->∀Hi t,Step H.next H.guard Hi->Own H.next Hi t 6 ((F j).flatMap Ent.av)->(F j=[]->t=zN)->
   ∃t' H',EG cl [.ref q 0 0,I aj,t,x,I c.l.length,I j] Hi=some (t',H')/\Own H.next H' t' 6 ((c.nT aj).flatMap Ent.av)/\(c.nT aj=[]->t'=zN):=by
  intro k
  induction k with
  | zero=>
   intro j hj Hi t s o z;have h1:¬(j:Int) < c.l.length:=by omega
   have:F j=c.nT aj:=by
    simp only [F,Cache.nT,p];rw [zaz (by omega)]
   rw [this] at o z;refine⟨t,Hi,?_,o,z⟩;rw [Vb];simp only [xq_,h1]
  | succ k ih=>
   intro j hj Hi t s o z;have h1:(j:Int) < c.l.length:=by omega
   have h6:(j:Int)+1=((j+1:Nat):Int):=by omega
   have h7:=wrap_i64 (a:=((j+1:Nat):Int)) (by omega) (by omega);obtain⟨e,he⟩:∃e,c.l[j]?=some e:=⟨_,zab (by omega)⟩
   have hsi:aW Hi x 6 c.l.length (c.l.flatMap Ent.av):=hs.jZ s.next λr _ hr=> s.low r hr
   have s1:=hsi.ix (k:=.i64) (i:=(j:Int)) (by omega) h1;rw [zat] at s1;have s2:=oH dS hsi he;have bi:Hi.base=H.next:=s.base.trans an9
   have ni:H.next<=Hi.next:=s.next
   have hbase:Hi.base<=Hi.next:=by omega
   have Gi:Good b Hi g:=G.guard.ext s.next s.low
   have l1:=(Gi.new (.blk 0 100 e.av)).load h (i:=1) (x:=I c.sets) rfl;have r0:c.sets≠0:=by omega
   have hFs:F (j+1)=F j++if p e=true then [e] else []:=by
    simp only [F,zdH,he,zcH,zcg]
    congr 1
    cases hp:p e <;> simp [hp]
   rw [Vb];by_cases hc:0<=aj/\e.aj.tmod c.sets=aj.tmod c.sets
   ·have hp:p e=true:=by simp only [p,hc.1,hc.2,decide_true,zcp]
    rw [hp,if_pos rfl] at hFs;have hm:=hF j;obtain⟨t1,H2,a1,a2,a3⟩:=((o.new (.blk 0 100 e.av)).new (.blk 0 100 e.av)).step (e:=100) (by_:=64) (n:=(F j).length) (by simp only [fA];omega) (by simp only [jy];omega) (by decide) (dR dS _) (ku (ex:=true) (n:=1) (m:=6) (l:=e.av) rfl) (kV e) (by unfold most;omega) (by unfold most;omega);have a2':Own H.next H2 t1 6 ((F (j+1)).flatMap Ent.av):=by rw [hFs,zbT];simpa using a2
    obtain⟨t',H',r1,r2⟩:=ih (j+1) (by omega) H2 t1 (((s.trans (Step.new _ ni)).trans (Step.new _ (by simp only [fA];omega))).trans a3) a2' (λhz=> by rw [hFs] at hz;simp at hz);refine⟨t',H',?_,r2⟩;simp only [fA] at a1;have lf:e.av[2]?=some (I e.aj):=rfl;simp only [Nat.reduceAdd,Nat.reduceLeDiff,aN,xq_,hq_,h1,s1,s2,hbase,hc,lf,l1,wC r0,Ad,aej,zbo,jS (m:=6) (z:=[zI,zI,zI,zI,zB,zN]) (v:=.agg e.av) rfl rfl (kV e),a1,dF,h6,h7];exact r1
   ·have hp:p e=false:=by
     simp only [p];by_cases h0:0<=aj
     ·have:¬e.aj.tmod c.sets=aj.tmod c.sets:=λh=> hc ⟨h0,h⟩;simp [this]
     ·simp [h0]
    rw [hp,if_neg (by simp),zbl] at hFs;obtain⟨t',H',r1,r2⟩:=ih (j+1) (by omega) (Hi.new (.blk 0 100 e.av)) t (s.trans (Step.new _ ni)) (by rw [hFs];exact o.new _) (by rw [hFs];exact z);refine⟨t',H',?_,r2⟩;have lf:e.av[2]?=some (I e.aj):=rfl;by_cases h0:0<=aj
    ·have hne:¬e.aj.tmod c.sets=aj.tmod c.sets:=λh=> hc ⟨h0,h⟩;simp only [Nat.reduceAdd,aN,xq_,hq_,h1,s1,s2,hbase,h0,hne,lf,l1,wC r0,Ad,dF,h6,h7,r1]
    ·simp only [Nat.reduceAdd,aN,xq_,hq_,h1,s1,s2,hbase,h0,Ad,dF,h6,h7,r1]
 obtain⟨t',H',r1,r2,r3⟩:=key c.l.length 0 (by omega) H.guard zN (Step.refl _ _) (.inl ⟨rfl,rfl⟩) (λ_=> rfl);refine jq rfl rfl (amn _ _ _ _ (r:=(t',H')) ?_) ?_
 ·simp only [xq_,af8,hx,e2];exact r1
 ·by_cases hz:c.nT aj=[]
  ·rw [r3 hz,hz,gZ];exact jC
  ·rw [Lh hz];refine JU r2 (by decide) (dR dS _) (λy hy=> ?_) (λe=> hz (zas e));obtain⟨a,_,ha⟩:=za9.1 hy;exact ML (d:=6) a y ha _ _
theorem Qa(G:Good b H g){c:Cache}(h:g q=some (dn c))(hl:c.l.length < 1000000)(hs0:1<=c.sets)(aj:Int):cl 151 [.ref q 0 0,I aj] H=some (B (c.full aj),H):=by
 refine bU rfl rfl (alN _ _ _ _) ?_ gq;have e1:=Hl G.guard h hl aj;have e2:=Vx G.guard.guard h hl hs0 aj;have e3:=(Jt dS H.guard (c.nT aj)).lnS;have e4:=G.guard.load h (i:=2) (x:=I c.ways) rfl;have hf:(c.find aj).isNone=(c.at_ aj).isNone:=by
  rw [show c.find aj=(c.at_ aj).bind λi=> c.l[i]? from(rE c.l).symm];cases ha:c.at_ aj with
  | none=> rfl
  | some i=>
   have hi:i < c.l.length:=zbz.1 ha |>.1
   simp [zab hi]
 cases ha:c.at_ aj with
 | none=>
  rw [ha] at e1 hf;have hn:ER (none:Option Nat)=-1:=rfl;rw [hn] at e1;simp only [Int.reduceLT,Int.reduceNeg,xq_,ZH,e1,e2,e3,e4,Cache.full,hf,zcD,zaU]
 | some i=>
  rw [ha] at e1 hf;have hn:ER (some i)=(i:Int):=rfl;rw [hn] at e1;have h0:¬(i:Int) < 0:=by omega
  simp only [xq_,ZH,e1,h0,Cache.full,hf,Option.isNone_some,zaV]
end
theorem adq(H:ah)(a e:Ent)(h:zH (a.used - e.used)):cl 203 [.agg a.av,.agg e.av] H=some (I (a.used - e.used),H):=by
 refine bU rfl rfl (amq _ _ _ _) ?_ gq;have w:=wrap_i64 h.1 h.2;simp only [Nat.reduceLT,xq_,hq_,agb,aF,Ent.av,jR,w]
abbrev agy(m:Ent)(l:List Ent):Ent:=l.foldl (λm x=> if x.used < m.used then x else m) m
theorem Xa(H:ah)(hb:H.base<=H.next){a:Ent}{l:List Ent}(hl:l.length < 1000000)(hu:∀e∈a::l,0<=e.used/\e.used < 1000000000):
  ∃H',cl 202 [vsl 6 Ent.av (a::l),.fn (.func 203) [] []] H=some (.agg (agy a l).av,H'):=by
 obtain⟨L,hL⟩:∃L,L=a::l:=⟨_,rfl⟩
 have hs:=λH=> Jt dS H L;have hll:L.length=l.length+1:=by rw [hL];rfl
 rw [<-hL] at hu ⊢;let HH:Ent->ah:=λm=> (H.new (.blk 0 100 [zI,zI,zI,zI,zB,zN])).new (.blk 0 100 m.av)
 have key:∀k j,j+k=L.length->∀m,m∈L->
   ∃H',EH cl [vsl 6 Ent.av L,.fn (.func 203) [] [],.ref H.next 0 0,.ref (H.next+1) 0 0,I j] (HH m)=some (.agg (agy m (L.drop j)).av,H'):=by
  intro k
  induction k with
  | zero=>
   intro j hj m hm;have h1:¬(j:Int) < L.length:=by omega
   have s0:=(hs (HH m)).lnS;have hd:L.drop j=[]:=zaS (by omega);refine⟨(H.new (.blk 0 100 m.av)).new (.blk 0 100 m.av),?_⟩;rw [Vd,hd];simp only [HH] at s0 ⊢;simp only [Nat.reduceAdd,aN,xq_,hq_,s0,h1,hb,agy,List.foldl_nil]
  | succ k ih=>
   intro j hj m hm;have h1:(j:Int) < L.length:=by omega
   have h6:(j:Int)+1=((j+1:Nat):Int):=by omega
   have h7:=wrap_i64 (a:=((j+1:Nat):Int)) (by omega) (by omega);obtain⟨e,he⟩:∃e,L[j]?=some e:=⟨_,zab (by omega)⟩
   have s0:=(hs (HH m)).lnS;have s1:=(hs (HH m)).ix (k:=.i64) (i:=(j:Int)) (by omega) h1;rw [zat] at s1;have s2:=oH dS (hs (HH m)) he;have u1:=hu _ (zaq he);have u2:=hu _ hm;have c0:rP Tryz.prog cl (.fn (.func 203) [] []) [.agg e.av,.agg m.av] (HH m)=some (I (e.used - m.used),HH m):=by
    rw [oM (by kernel_rfl)];exact adq _ e m ⟨by omega,by omega⟩
   have hd:L.drop j=e::L.drop (j+1):=by
    rw [zbA (by omega)];rw [zab (by omega)] at he;rw [zaZ he]
   rw [Vd,hd];by_cases hc:e.used < m.used
   ·have hc':e.used - m.used < 0:=by omega
    obtain⟨H',r1⟩:=ih (j+1) (by omega) e (zaq he);refine⟨H',?_⟩;simp only [HH] at s0 s1 s2 c0 r1 ⊢;simp only [Nat.reduceAdd,aN,xq_,hq_,s0,h1,s1,s2,c0,hc',hb,EI,dF,h6,h7,agy,zbJ,hc];exact r1
   ·have hc':¬e.used - m.used < 0:=by omega
    obtain⟨H',r1⟩:=ih (j+1) (by omega) m hm;refine⟨H',?_⟩;simp only [HH] at s0 s1 s2 c0 r1 ⊢;simp only [Nat.reduceAdd,aN,xq_,hq_,s0,h1,s1,s2,c0,hc',hb,EI,dF,h6,h7,agy,zbJ,hc];exact r1
 obtain⟨H',r1⟩:=key l.length 1 (by omega) a (by rw [hL];simp);refine⟨H',bg rfl rfl (amo _ _ _ _ ?_)⟩;let H1:=H.new (.blk 0 100 [zI,zI,zI,zI,zB,zN]);have s0:=(hs H1).lnS;have h1:¬(L.length:Int) < 1:=by omega
 have s1:=(hs H1).ix (k:=.i64) (i:=(0:Int)) (by omega) (by omega);have s2:=oH dS (hs H1) (i:=0) (a:=a) (by rw [hL];rfl);rw [show((0:Int).toNat)=0 from rfl] at s1;have d1:L.drop 1=l:=by rw [hL];rfl
 rw [d1] at r1;simp only [HH] at r1;simp only [H1] at s0 s1 s2;have j1:((1:Nat):Int)=1:=rfl;rw [j1] at r1;simp only [Nat.reduceAdd,aN,xq_,hq_,aga,LY,s0,h1,s1,s2,hb];exact r1
section
variable {b:Nat}{H:ah}{g:bD}{q:Nat}
theorem aib(c:Cache)(aj:Int):∀e∈c.nT aj,e∈c.l:=λe he=> (zbn.1 he).1
theorem Tc(G:Good b H g){c:Cache}(h:g q=some (dn c))(hl:c.l.length < 1000000)(hs0:1<=c.sets)(hu:∀e∈c.l,0<=e.used/\e.used < 1000000000)(aj:Int):
  cl 152 [.ref q 0 0,I aj] H=some (.tup [I ((c.nH aj).getD 0),B (c.nH aj).isSome],H):=by
 refine bU rfl rfl (alO _ _ _ _) ?_ (rY λx hx=> by
  simp only [zaj,zay,or_false] at hx;rcases hx with rfl | rfl <;> exact gq)
 have e2:=Vx G.guard h hl hs0 aj;have e3:=(Jt dS H.guard (c.nT aj)).lnS;have hlen:(c.nT aj).length<=c.l.length:=zcn _ _;cases hz:c.nT aj with
 | nil=>
  rw [hz] at e2 e3;have hv:c.nH aj=none:=by simp [Cache.nH,hz,mX]
  simp only [xq_,ZI,e2,e3,hv,zan,Int.ofNat_zero,za1,zaG]
 | cons a l=>
  rw [hz] at e2 e3 hlen;have hv:c.nH aj=some (agy a l).aj:=by simp [Cache.nH,hz,mX]
  obtain⟨H',e4⟩:=Xa H.guard (zac _) (a:=a) (l:=l) (by simp only [zam] at hlen;omega) (λe he=> hu e (aib c aj e (by rw [hz];exact he)));have h1:¬((a::l).length:Int)=0:=by simp only [zam];omega
  have lf:(agy a l).av[2]?=some (I (agy a l).aj):=rfl;simp only [xq_,ZI,e2,e3,h1,e4,hv,lf,zar,zaI]
end
theorem JV {α:Type}{enc:α->List AV}{m:Nat}(he:∀a,(enc a).length=m){a':α}{o:Nat}{vs:List AV}(ho:o+vs.length<=m):∀(l:List α) (i:Nat) (a:α),l[i]?=some a->aN (enc a) o vs=enc a'->aN (l.flatMap enc) (i*m+o) vs=(l.set i a').flatMap enc
 | [],i,a,h,_=> by simp at h
 | x::l,0,a,h,hv=> by
  simp only [zaP,zaa] at h;subst h;have hl:=he x;rw [zb2,zaE,zaE,<-hv];unfold aN;rw [zbq,za3,zbM (by omega),List.drop_append_of_le_length (by omega)];simp only [zbh]
 | x::l,i+1,a,h,hv=> by
  have hl:=he x;have ih:=JV he ho l i a (by simpa using h) hv;rw [zb3,zaE,zaE,<-ih];unfold aN;have e1:(i+1)*m+o=(enc x).length+(i*m+o):=by rw [hl,zbu,zbo];omega
  have e2:(i+1)*m+o+vs.length=(enc x).length+(i*m+o+vs.length):=by rw [hl,zbu,zbo];omega
  rw [e2,e1,List.take_length_add_append,List.drop_length_add_append,zbh]
section
variable {b:Nat}{H:ah}{g:bD}{q:Nat}
theorem Qb(G:Good b H g)(hb:H.base<=b){c:Cache}(h:g q=some (dn c)){x:AV}(cx:Cur b H q 0 x 6 (c.l.flatMap Ent.av)){i:Nat}{e e':Ent}(hi:c.l[i]?=some e):
  ∃r gg off,eU x i=.ref r gg off/\∀(w o:Nat) (v:AV),v.cells.length=w->v.cells.all AV.aX=true->o+w<=6->aN e.av o v.cells=e'.av->
   ∃H',st w (.ref r gg (off+o)) v H=some (aY,H')/\Good b H' (upd g q (dn { c with l:=c.l.set i e' }))/\Step b H H'/\H'.next=H.next:=by
 obtain⟨r,gg,off,e1,e2⟩:=G.elem hb h (i:=0) rfl (by decide) (dR dS c.l) cx (j:=i) (zai.1 hi).1;refine⟨r,gg,off,e1,λw o v h1 h2 h3 h4=> ?_⟩;obtain⟨H',s1,s2,s3⟩:=e2 w o v h1 h2 h3;refine⟨H',s1,?_,s3⟩;have:=JV dS (o:=o) (vs:=v.cells) (by omega) c.l i e hi h4;rw [this] at s2;exact s2
theorem Xb(G:Good b H g)(hb:H.base<=b){c:Cache}(h:g q=some (dn c))(hl:c.l.length < 1000000)(hk:0<=c.bW/\c.bW < 1000000000)(aj:Int):
  ∃H',cl 150 [.ref q 0 0,I aj] H=some (B (c.at_ aj).isSome,H')/\Good b H' (upd g q (dn (c.touch aj)))/\Step b H H':=by
 refine kD rfl rfl (alL _ _ _ _) ?_;have e1:=Hl G h hl aj;cases ha:c.at_ aj with
 | none=>
  rw [ha] at e1;have hn:ER (none:Option Nat)=-1:=rfl;rw [hn] at e1;refine⟨H,?_,by rw [show c.touch aj=c by simp [Cache.touch,ha],fF h];exact G,Step.refl _ _⟩;simp only [Int.reduceLT,Int.reduceNeg,xq_,ZG,e1,zaG]
 | some i=>
  rw [ha] at e1;have hn:ER (some i)=(i:Int):=rfl;rw [hn] at e1;have h0:¬(i:Int) < 0:=by omega
  have hi:i < c.l.length:=zbz.1 ha |>.1
  obtain⟨e,he⟩:∃e,c.l[i]?=some e:=⟨_,zab hi⟩
  have l1:=G.load h (i:=3) (x:=I c.bW) rfl;have w1:=wrap_i64 (a:=c.bW+1) (by omega) (by omega);obtain⟨H1,s1,G1,s3,s4⟩:=G.store hb h (i:=3) (v:=I (c.bW+1)) (by simp [dn]) dJ;have h1:upd g q ((dn c).set 3 (.av (I (c.bW+1)))) q=some (dn { c with bW:=c.bW+1 }):=aU;have l2:=G1.load h1 (i:=3) (x:=I (c.bW+1)) rfl;obtain⟨x,hx,cx⟩:=G1.seq h1 (i:=0) rfl;have hs:=cx.is (n:=c.l.length) (by decide) (dR dS c.l);have e3:=hs.ix (k:=.i64) (i:=(i:Int)) (by omega) (by omega);rw [zat] at e3;obtain⟨r,gg,off,p1,p2⟩:=Qb G1 (by rw [s3.base];exact hb) h1 cx (e':={ e with used:=c.bW+1 }) he;obtain⟨H2,t1,t2,t3,t4⟩:=p2 1 3 (I (c.bW+1)) rfl rfl (by decide) rfl;rw [p1] at e3;refine⟨H2,?_,?_,s3.trans t3⟩
  ·simp only [xq_,ZG,e1,h0,l1,dF,w1,s1,hx,l2,e3,t1,zaI]
  ·rw [rV] at t2;have:c.touch aj={ c with l:=c.l.set i { e with used:=c.bW+1 },bW:=c.bW+1 }:=by
    simp only [Cache.touch,ha];rw [zaF,he];rfl
   rw [this];exact t2
theorem aic {i n:Nat}{x:AV}{l:List AV}(c:Cur b H q i x 6 l)(hb:H.base<=b)(hl:l.length=n*6)(hn:n < 1000000000){j:Nat}(hj:j < n):
  ∃x' H',cl 242 [x,I j,I (j+1)] H=some (x',H')/\Fit H H' x x' 6 (l.take (j*6)++l.drop ((j+1)*6))/\H'.next=H.next/\H'.base=H.base/\∀r,jf x≠some r->H'.get r=H.get r:=by
 obtain⟨y,x1,x2,x3,H1,x4,H2,e1,e2,e3,e4,e5,e6,e7,f,n1,b1,k1⟩:=UJ c hb (by decide) hl hn hj (z:=[zI,zI,zI,zI,zB,zN]) rfl rfl (e:=100) (by_:=64) (by decide);have e0:=(c.is (by decide) hl).lnS;have hne:((j:Int)=j+1)=False:=eq_false (by omega);refine⟨x3,H2,bg rfl rfl (amY _ _ _ _ _ ?_),f,n1,b1,k1⟩;simp only [xq_,agt,e0,e1,e2,e3,e4,e5,e6,e7,hne]
theorem aaC(G:Good b H g)(hb:H.base<=b){c:Cache}(h:g q=some (dn c))(hl:c.l.length < 1000000){j:Nat}(hj:j < c.l.length):
  ∃x x' H1 H2,ld (.ref q 0 0) H=some (x,H)/\cl 242 [x,I j,I (j+1)] H=some (x',H1)/\st 1 (.ref q 0 0) x' H1=some (aY,H2)/\Good b H2 (upd g q (dn { c with l:=c.l.eraseIdx j }))/\Step b H H2:=by
 obtain⟨x,hx,cx⟩:=G.seq h (i:=0) rfl;obtain⟨x',H1,d1,d2,d3,d4,d5⟩:=aic cx hb (dR dS c.l) (by omega) hj;rw [JM dS] at d2;obtain⟨H2,s1,s2,s3,s4⟩:=G.seat h (i:=0) rfl cx (by omega) (by omega) (λr _ hr=> d5 r hr) d2;exact⟨x,x',H1,H2,hx,d1,s1,s2,Step.trans ⟨d4,by omega,λr hr=> d5 r (cx.low hr)⟩ s3⟩
theorem Ho(G:Good b H g)(hb:H.base<=b){c:Cache}(h:g q=some (dn c))(hl:c.l.length < 1000000)(hd:∀e∈c.l,e.data.length < 1000000000)(aj:Int):
  ∃H',cl 232 [.ref q 0 0,I aj] H=some (oP (c.find aj),H')/\Good b H' (upd g q (dn (c.drop aj)))/\Step b H H':=by
 have hq:=G.lt h;have G1:=G.newObj (ty:=100) (xs:=[zI,zI,zI,zI,zB,zN]) rfl;have h1:upd g H.next ([zI,zI,zI,zI,zB,zN].map .av) q=some (dn c):=by rw [aZ (by omega)];exact h
 have e1:=qF G1 h1 hl hd aj;have hb0:H.base<=H.next:=zau hb G.1
 refine kD rfl rfl (amQ _ _ _ _) ?_;have hf:c.find aj=(c.at_ aj).bind λi=> c.l[i]?:=(rE c.l).symm;cases ha:c.at_ aj with
 | none=>
  rw [ha] at hf;have hf:c.find aj=none:=hf;rw [hf] at e1;simp only [oP,za1,zaG,uT] at e1;have hdr:c.drop aj=c:=by simp [Cache.drop,ha]
  simp only [Nat.reduceAdd,aN,xq_,hq_,zaa,zad,exists_eq_left',Z4,e1,EN,oP,hf,za1,zaG,uT,hb0];rw [hdr,fF h];exact⟨(G.new _).new _,(Step.new _ G.1).trans (Step.new _ (G.new _).1)⟩
 | some i=>
  have hi:i < c.l.length:=zbz.1 ha |>.1
  obtain⟨e,he⟩:∃e,c.l[i]?=some e:=⟨_,zab hi⟩
  rw [ha] at hf;have hf:c.find aj=some e:=by rw [hf];exact he
  rw [hf] at e1;simp only [oP,zar,zaI] at e1;have G2:=G1.newObj (ty:=100) (xs:=e.av) (kV _);have h2:upd (upd g H.next ([zI,zI,zI,zI,zB,zN].map .av)) (H.next+1) (e.av.map .av) q=some (dn c):=by rw [aZ (by omega)];exact h1
  have e2:=Hl G2 h2 hl aj;have hn:ER (some i)=(i:Int):=rfl;rw [ha,hn] at e2;obtain⟨x,x',K1,K2,s1,s2,s3,s4,s5⟩:=aaC G2 (by rw [jy,jy];omega) h2 hl hi;have G3:Good b K2 _:=s4;let gz:=upd (upd (upd g H.next ([zI,zI,zI,zI,zB,zN].map .av)) (H.next+1) (e.av.map .av)) q (dn { c with l:=c.l.eraseIdx i });have q2:gz (H.next+1)=some (e.av.map .av):=by simp only [gz];rw [aZ (by omega),aU]
  have q1:gz H.next=some ([zI,zI,zI,zI,zB,zN].map .av):=by simp only [gz];rw [aZ (by omega),aZ (by omega),aU]
  have l2:=G3.loads q2 (i:=0) (n:=6) (xs:=e.av) rfl rfl (by decide);obtain⟨K3,t1,t2,t3,t4⟩:=G3.stores (by rw [s5.base,jy,jy];exact hb) q1 (i:=0) (n:=6) (vs:=e.av) (by decide) rfl (kV _);have l3:=t2.loads aU (i:=0) (n:=6) (xs:=e.av) rfl rfl (by decide);have w1:=wrap_i64 (a:=(i:Int)+1) (by omega) (by omega);have hdr:c.drop aj={ c with l:=c.l.eraseIdx i }:=by simp [Cache.drop,ha]
  simp only [Nat.reduceAdd,aN,xq_,hq_,zaa,zad,exists_eq_left',Z4,e1,EN,oP,hf,zar,zaI,hb0,e2,dF,w1,s1,s2,s3,l2,t1,l3,hdr];have n1:g H.next=none:=G.isNone (zac _)
  have n2:g (H.next+1)=none:=G.isNone (by omega);exact⟨t2.sub (((((sW.refl g).more n1 _).more n2 _).both q _).more (zC n1 (by omega)) _),(((Step.new _ G.1).trans (Step.new _ (G.new _).1)).trans s5).trans t3⟩
end
section
variable {b:Nat}{H:ah}{g:bD}{q:Nat}
theorem Vy(G:Good b H g)(hb:H.base<=b){c:Cache}(h:g q=some (dn c))(hl:c.l.length < 1000000)(hs0:1<=c.sets)(hk:0<=c.bW/\c.bW < 1000000000)(e:Ent){x:AV}(hel:e.data.length < 1000000000)(hx:kE H x e.data):
  ∃H',cl 191 [.ref q 0 0,.agg (e.avx x)] H=some (I (c.put e).2,H')/\Good b H' (upd g q (dn (c.put e).1))/\Step b H H':=by
 have hq:=G.lt h;have hb0:H.base<=H.next:=zau hb G.1
 have ax:=adn (p:=e) hx.one;have e0:=Vu (H.new (.blk 0 100 (e.avx x))) e hel (hx.new _);have ll:(e.avx x).length=6:=rfl;have lt:(e.avx x).take 6=e.avx x:=rfl;have l6:(e.avx x).drop 6=[]:=rfl;let H1:=H.new (.blk 0 100 e.av);have G1:Good b H1 g:=G.new _;have lf:e.av[2]?=some (I e.aj):=rfl;refine kD rfl rfl (al7 _ _ _ _) ?_;by_cases hneg:e.aj < 0
 ·have hp:c.put e=(c,1):=by simp only [Cache.put];rw [if_pos hneg]
  rw [hp];refine⟨H1,?_,by rw [fF h];exact G1,Step.new _ G.1⟩;simp only [Nat.reduceLT,aN,xq_,hq_,PE,aF ax,ll,lt,l6,e0,hb0,lf,hneg];rfl
 ·have e1:=Hl G1 h hl e.aj;cases ha:c.at_ e.aj with
  | some i=>
   rw [ha] at e1;have hn:ER (some i)=(i:Int):=rfl;rw [hn] at e1;have h0:(0:Int)<=i:=by omega
   have hi:i < c.l.length:=zbz.1 ha |>.1
   obtain⟨o,ho⟩:∃o,c.l[i]?=some o:=⟨_,zab hi⟩
   obtain⟨y,hy0,cy⟩:=G.seq h (i:=0) rfl;have c1:=cy.new (.blk 0 100 e.av);have y1:=c1.load;have hs:=c1.is (n:=c.l.length) (by decide) (dR dS c.l);have e3:=hs.ix (k:=.i64) (i:=(i:Int)) (by omega) (by omega);rw [zat] at e3;have e4:=hs.aj2 (i:=i) (o:=3) hi (by decide);rw [GY dS c.l i o ho (by decide)] at e4;let e':Ent:={ e with used:=o.used }
   let H2:=H.new (.blk 0 100 e'.av);have G2:Good b H2 g:=G.new _;have c2:=cy.new (.blk 0 100 e'.av);have y2:=c2.load;have hs2:=c2.is (n:=c.l.length) (by decide) (dR dS c.l);have e5:=hs2.ix (k:=.i64) (i:=(i:Int)) (by omega) (by omega);rw [zat] at e5;obtain⟨r,gg,off,p1,p2⟩:=Qb G2 hb h c2 (e':=e') ho;obtain⟨H3,t1,t2,t3,t4⟩:=p2 6 0 (.agg e'.av) rfl (kV e') (by decide) (by simp only [fJ];rfl);rw [p1] at e3 e4 e5;rw [qW] at e4;have ou:o.av[3]?=some (I o.used):=rfl;simp only [za4,ou,zak] at e4;rw [zbp] at t1;have hp:c.put e=({ c with l:=c.l.set i e' },0):=by
    simp only [Cache.put];rw [if_neg hneg,ha];simp only [e',zaF,ho,zar]
   rw [hp];refine⟨H3,?_,t2,(Step.new _ G.1).trans t3⟩;simp only [H1,Ent.av] at e1 y1 e3 e4;simp only [H2,e',Ent.av] at y2 e5 t1;simp only [Nat.reduceLT,Nat.reduceAdd,aN,xq_,hq_,PE,aF ax,ll,lt,l6,e0,hb0,hneg,e1,h0,y1,e3,e4,Ent.av,y2,e5,t1]
  | none=>
   rw [ha] at e1;have hn:ER (none:Option Nat)=-1:=rfl;rw [hn] at e1;have e2:=Qa G1 h hl hs0 e.aj;simp only [H1] at e1 e2;cases hf:c.full e.aj with
   | true=>
    have hp:c.put e=(c,5):=by simp only [Cache.put];rw [if_neg hneg,ha];simp only [hf,if_true]
    rw [hp];rw [hf] at e2;refine⟨H1,?_,by rw [fF h];exact G1,Step.new _ G.1⟩;simp only [Nat.reduceLT,Int.reduceLE,Int.reduceNeg,aN,xq_,hq_,PE,aF ax,ll,lt,l6,e0,hb0,lf,hneg,e1,e2];rfl
   | false=>
    rw [hf] at e2;let e':Ent:={ e with used:=c.bW+1 }
    have hp:c.put e=({ c with l:=c.l++[e'],bW:=c.bW+1 },0):=by simp only [Cache.put];rw [if_neg hneg,ha];simp only [hf,zah,if_false];rfl
    rw [hp];have F1:=G.newObj (ty:=100) (xs:=e.av) (kV e);have f1:upd g H.next (e.av.map .av) q=some (dn c):=by rw [aZ (by omega)];exact h
    have l1:=F1.load f1 (i:=3) (x:=I c.bW) rfl;have w1:=wrap_i64 (a:=c.bW+1) (by omega) (by omega);obtain⟨H2,s1,F2,s3,s4⟩:=F1.store hb f1 (i:=3) (v:=I (c.bW+1)) (by simp [dn]) dJ;have f2:upd (upd g H.next (e.av.map .av)) q ((dn c).set 3 (.av (I (c.bW+1)))) q=some (dn { c with bW:=c.bW+1 }):=aU;have l2:=F2.load f2 (i:=3) (x:=I (c.bW+1)) rfl;have f3:upd (upd g H.next (e.av.map .av)) q ((dn c).set 3 (.av (I (c.bW+1)))) H.next=some (e.av.map .av):=by rw [aZ (by omega),aU]
    obtain⟨H3,t1,F3,t3,t4⟩:=F2.store (by rw [s3.base];exact hb) f3 (i:=3) (v:=I (c.bW+1)) (by simp [Ent.av]) dJ;have f4:upd (upd (upd g H.next (e.av.map .av)) q ((dn c).set 3 (.av (I (c.bW+1))))) H.next ((e.av.map .av).set 3 (.av (I (c.bW+1)))) q=some (dn { c with bW:=c.bW+1 }):=by rw [aZ (by omega)];exact f2
    have l4:=F3.loads aU (i:=0) (n:=6) (xs:=e'.av) rfl rfl (by decide);obtain⟨y,hy,cy⟩:=F3.seq f4 (i:=0) rfl;obtain⟨x',K1,K2,a1,a2,a3,a4⟩:=(F3.new (.blk 0 100 e'.av)).append (e:=100) (by_:=64) (n:=c.l.length) (by rw [jy,t3.base,s3.base];exact hb) f4 (i:=0) rfl (by decide) (dR dS c.l) (cy.new _) (ku (ex:=true) (n:=1) (m:=6) (l:=e'.av) rfl) (kV e') (by unfold most;omega) (by unfold most;omega);refine⟨K2,?_,?_,(((Step.new _ G.1).trans s3).trans t3).trans ((Step.new _ F3.1).trans a4)⟩
    ·simp only [Nat.reduceLT,Int.reduceLE,Int.reduceNeg,Nat.reduceLeDiff,aN,xq_,hq_,PE,aF ax,ll,lt,l6,e0,hb0,lf,hneg,e1,e2,l1,dF,w1,s1,l2,t1,hy,l4,aej,zbo,jS (m:=6) (z:=[zI,zI,zI,zI,zB,zN]) (v:=.agg e'.av) rfl rfl (kV e'),a1,a2]
    ·refine a3.sub λq' cs hq'=> ?_;have n1:g H.next=none:=G.isNone (zac _)
     unfold upd at hq' ⊢;by_cases e3:q'=q
     ·rw [if_pos e3] at hq' ⊢;cases hq';simp [dn]
     ·rw [if_neg e3] at hq' ⊢;have:q'≠H.next:=λe4=> by rw [e4,n1] at hq';cases hq'
      rw [if_neg this,if_neg e3,if_neg this];exact hq'
end
theorem Qc:∀(es:List (Int × AV)) (n:Int) (v:AV),Ku es n v=lG es n v
 | [],_,_=> rfl
 | (k,w)::es,n,v=> by
  simp only [Ku,lG];split
  ·rfl
  ·rw [Qc es n v]
theorem MP {α:Type}:∀{es:List (Int × α)} {n:Int} {v:α} {j:Nat} {n':Int} {w:α},(es.map (·.1)).Nodup->(lG es n v)[j]?=some (n',w)->(n'=n/\w=v)∨(n'≠n/\es[j]?=some (n',w))
 | [],n,v,j,n',w,_,h=> by
  simp only [lG] at h;cases j with
  | zero=> simp only [zaP,zaa,zad] at h;exact .inl ⟨h.1.symm,h.2.symm⟩
  | succ j=> simp at h
 | (k0,v0)::es,n,v,j,n',w,hn,h=> by
  simp only [zaw,zaY] at hn;simp only [lG] at h;split at h
  ·rename_i e;cases j with
   | zero=> simp only [zaP,zaa,zad] at h;exact .inl ⟨h.1.symm,h.2.symm⟩
   | succ j=>
    simp only [zbb] at h;refine .inr ⟨λe'=> hn.1 ?_,by simpa using h⟩;rw [e,<-e'];exact zaH.2 ⟨_,zaq h,rfl⟩
  ·rename_i e;cases j with
   | zero=>
    simp only [zaP,zaa,zad] at h;refine .inr ⟨λe'=> e (by rw [h.1,e']),by simp [h.1,h.2]⟩
   | succ j=>
    simp only [zbb] at h;rcases MP hn.2 h with h' | ⟨h1,h2⟩
    ·exact .inl h'
    ·exact .inr ⟨h1,by simpa using h2⟩
theorem JW {α β:Type}:∀{es:List (Int × α)} {az:List (Int × β)} {n:Int} {v:α} {w:β},az.map (·.1)=es.map (·.1)->(lG az n w).map (·.1)=(lG es n v).map (·.1)
 | [],[],_,_,_,_=> rfl
 | [],_::_,_,_,_,h=> by simp at h
 | _::_,[],_,_,_,h=> by simp at h
 | (k,v0)::es,(k',w0)::az,n,v,w,h=> by
  simp only [zaw,zbK] at h;obtain⟨rfl,h⟩:=h;simp only [lG];split
  ·simp [h]
  ·simp only [zaw,zbK,true_and];exact JW h
section
variable {b:Nat}{H:ah}{g:bD}{q:Nat}{cs:List Cell}
theorem Good.MQ(G:Good b H g)(h:g q=some cs){i m:Nat}{k:IntKind}{es:List (Int × List AV)}(hi:cs[i]?=some (.maps k m es))(hnd:(es.map (·.1)).Nodup)(n:Int):
  ∃r x,ld (.ref q 0 i) H=some (.mp r,H)/\lk k (.slice none 0 0) (.mp r) (.s (.int k n)) false H=some (x,H)/\Own b H x m ((jg es n).getD [])/\jf x≠some q/\q < H.next/\(∀r',jf x=some r'->b<=r')/\
   ∀H1 x' l',H.next<=H1.next->H1.base<=b->(∀r',r' < H.next->jf x≠some r'->H1.get r'=H.get r')->Fit H H1 x x' m l'->
    ∃H',mup k (.mp r) (.s (.int k n)) x' H1=some (aY,H')/\Good b H' (upd g q (cs.set i (.maps k m (lG es n l'))))/\Step b H1 H'/\H'.next=H1.next:=by
 obtain⟨h0,τ,hR⟩:=G;have R:=hR q cs h;obtain⟨ty,xs,h1,h2,h3,h4⟩:=R.blk;have hqn:=R.hi;have hlt:i < xs.length:=by rw [h2];exact(zai.1 hi).1
 have hx:xs[i]?=some (xs[i]'hlt):=zab hlt;have:=h4 i _ _ hi hx;simp only [CR] at this;obtain⟨aes,⟨r,e,t1,t2,t3,t4⟩,a2,a3⟩:=this;rw [e] at hx;have hrq:q≠r:=by intro e;subst e;rw [R.tag] at t1;cases t1
 obtain⟨x,x1,x2⟩:∃x,OS b H τ (q,i+1,1,n) x m ((jg es n).getD [])/\lk k (.slice none 0 0) (.mp r) (.s (.int k n)) false H=some (x,H):=by
  cases hn:jg es n with
  | none=>
   have hf:qh aes n=none:=by rw [tN];exact(P7 a2).1 hn
   refine⟨zN,.inl ⟨rfl,rfl⟩,?_⟩;simp only [lk,kF,bQ,zak,lkO,t4,and_self,if_true,hf];rfl
  | some l=>
   obtain⟨j,w,b1,b2,b3⟩:=G9 a2 hn;refine⟨w,a3 j n l w b2 b3,?_⟩;simp only [lk,kF,bQ,zak,lkO,t4,and_self,if_true,tN,b1];rfl
 have htag:∀r',jf x=some r'->τ r'=some (q,i+1,1,n)/\b<=r':=by
  intro r' hr;rcases x1 with⟨rfl,_⟩ | ⟨r0,gg,off,n',cap,ex,ty',all,rfl,k1,k2,_⟩
  ·cases hr
  ·simp only [jf,zaa] at hr;subst hr;exact⟨k1,k2⟩
 have hxq:jf x≠some q:=λe=> by have:=(htag q e).1;rw [R.tag] at this;cases this
 have hxr:jf x≠some r:=λe=> by have:=(htag r e).1;rw [t1] at this;simp at this
 refine⟨r,x,by rw [kS h1,hx];rfl,x2,x1.own,hxq,hqn,λr' hr=> (htag r' hr).2,λH1 x' l' hn hb hk hf=> ?_⟩;have hg1:H1.get r=.map k aes:=by rw [hk r t3 hxr,t4]
 refine⟨H1.put r (.map k (Ku aes n x')),?_,?_,Step.put _ t2,rfl⟩
 ·simp only [mup,hg1];rw [if_pos ⟨trivial,trivial,by omega⟩]
 ·refine xq (τ':=λr'=> if H.next<=r' then some (q,i+1,1,n) else τ r') h0 hR (show H.next<=H1.next from hn) (λr' hr ht=> ⟨by rw [if_neg (by omega)],?_⟩)
   ⟨by rw [if_neg (by omega)];exact R.tag,R.lo,show q < H1.next by omega,yu (xs:=xs) (by rw [dQ,if_neg hrq,hk q hqn hxq];exact h1) (R.tyl _ _ _ h1),ty,xs,by rw [dQ,if_neg hrq,hk q hqn hxq];exact h1,by simp [h2],h3,λj cc y hc hy=> ?_⟩
  ·rw [dQ,if_neg (by intro e;subst e;exact ht _ _ _ t1)];exact hk r' hr λe=> ht _ _ _ (htag r' e).1
  ·rcases mP hc with⟨rfl,rfl⟩ | ⟨hj,hc⟩
   ·rw [hx] at hy;cases hy;refine⟨lG aes n x',⟨r,rfl,by simp only;rw [if_neg (by omega)];exact t1,t2,show r < H1.next by omega,by rw [dQ,if_pos rfl,Qc]⟩,JW a2,λj' n' cells y' h5 h6=> ?_⟩;rcases MP hnd h5 with⟨rfl,rfl⟩ | ⟨hne,h5⟩
    ·rcases MP (by rw [a2];exact hnd) h6 with⟨_,rfl⟩ | ⟨hne,_⟩
     ·rcases hf with hf | ⟨r0,gg,off,n'',cap,ex,ty',all,rfl,k1,k2,k3,k4,k5⟩
      ·exact .inl hf
      ·have hr0:r0≠r:=by
        rcases k1 with k1 | k1
        ·intro e;subst e;exact hxr k1
        ·omega
       refine .inr ⟨r0,gg,off,n'',cap,ex,ty',all,rfl,?_,?_,k2,k3,by rw [dQ,if_neg hr0];exact k4,k5⟩
       ·show(if H.next<=r0 then some (q,j+1,1,n') else τ r0)=some (q,j+1,1,n');split
        ·rfl
        ·rcases k1 with k1 | k1
         ·exact(htag r0 k1).1
         ·omega
       ·rcases k1 with k1 | k1
        ·exact(htag r0 k1).2
        ·omega
     ·exact absurd rfl hne
    ·rcases MP (by rw [a2];exact hnd) h6 with⟨h7,_⟩ | ⟨_,h6⟩
     ·exact absurd h7 hne
     ·refine(a3 j' n' cells y' h5 h6).keep (show H.next<=H1.next from hn) λr' hr ht=> ⟨by rw [if_neg (by omega)];exact ht,?_⟩
      rw [dQ,if_neg (by intro e;subst e;rw [t1] at ht;simp at ht)];refine hk r' hr λe=> ?_;have:=(htag r' e).1;rw [this] at ht;simp only [zaa,zad,true_and] at ht;exact hne ht.symm
   ·refine(h4 j cc y hc hy).keep (show H.next<=H1.next from hn) λr' s t hr ht=> ⟨by rw [if_neg (by omega)];exact ht,?_⟩
    rw [dQ,if_neg (by intro e;subst e;rw [t1] at ht;simp only [zaa,zad,zb5] at ht;exact hj ht.2.1.symm)];refine hk r' hr λe=> ?_;have:=(htag r' e).1;rw [this] at ht;simp only [zaa,zad,zb5] at ht;exact hj ht.2.1.symm
theorem Good.aie(G:Good b H g)(h:g q=some cs){i m:Nat}{k:IntKind}{es:List (Int × List AV)}(hi:cs[i]?=some (.maps k m es)):
  ∃r aes,ld (.ref q 0 i) H=some (.mp r,H)/\r < H.next/\H.get r=.map k aes/\aes.map (·.1)=es.map (·.1):=by
 obtain⟨h0,τ,hR⟩:=G;have R:=hR q cs h;obtain⟨ty,xs,h1,h2,h3,h4⟩:=R.blk;have hlt:i < xs.length:=by rw [h2];exact(zai.1 hi).1
 have hx:xs[i]?=some (xs[i]'hlt):=zab hlt;have:=h4 i _ _ hi hx;simp only [CR] at this;obtain⟨aes,⟨r,e,t1,t2,t3,t4⟩,a2,a3⟩:=this;rw [e] at hx;exact⟨r,aes,by rw [kS h1,hx];rfl,t3,t4,a2⟩
end
abbrev CG(t:Turns):List (Int × List AV):=t.wait.map λe=> (e.1,e.2.flatMap IK)
theorem CJ(t:Turns):(CG t).map (·.1)=t.wait.map (·.1):=by simp [CG]
theorem Hq(t:Turns)(aj:Int):(jg (CG t) aj).getD []=(t.ws aj).flatMap IK:=by
 rw [CG,MN (λl:List (Int × Int)=> l.flatMap IK)];unfold Turns.ws;cases jg t.wait aj <;> rfl
theorem Qd(w:List (Int × List (Int × Int)))(aj:Int)(l:List (Int × Int)):lG (w.map λe=> (e.1,e.2.flatMap IK)) aj (l.flatMap IK)=(lG w aj l).map λe=> (e.1,e.2.flatMap IK):=by
 induction w with
 | nil=> rfl
 | cons e w ih=>
  obtain⟨k,v⟩:=e;simp only [zaw,lG];split
  ·rfl
  ·rw [ih];rfl
section
variable {b:Nat}{H:ah}{g:bD}{q:Nat}
theorem adr(G:Good b H g)(hb:H.base<=b){t:Turns}(h:g q=some (iC t))(hw:(t.wait.map (·.1)).Nodup)(aj who id:Int)(hl:(t.ws aj).length < 1000000):
  ∃H',cl 227 [.ref q 0 0,I aj,I who,I id] H=some (B (t.ask aj who id).2,H')/\Good b H' (upd g q (iC (t.ask aj who id).1))/\Step b H H':=by
 refine kD rfl rfl (amK _ _ _ _ _ _) ?_;have e1:=xM G h aj;have e2:=wQ G h aj;by_cases hneg:who < 0
 ·have hp:t.ask aj who id=(t,false):=by simp only [Turns.ask];rw [if_pos hneg]
  rw [hp];refine⟨H,?_,by rw [fF h];exact G,Step.refl _ _⟩;simp only [xq_,PL,hneg]
 ·by_cases hc:(t.owned aj || !(t.ws aj).isEmpty)=true
  ·have hp:t.ask aj who id=({ t with wait:=lG t.wait aj (t.ws aj++[(who,id)]) },false):=by simp only [Turns.ask];rw [if_neg hneg,if_pos hc]
   rw [hp];obtain⟨r,x,f1,f2,f3,f4,f5,f6,f7⟩:=G.MQ h (i:=1) rfl (by rw [show t.wait.map (λe=> (e.1,e.2.flatMap λw=> [I w.1,I w.2]))=CG t from rfl,CJ];exact hw) aj;rw [show t.wait.map (λe=> (e.1,e.2.flatMap λw=> [I w.1,I w.2]))=CG t from rfl,Hq] at f3;let o:fU:=.blk 0 322 [I who,I id];obtain⟨x',H1,a1,a2,a3,a4,a5⟩:=(f3.new o).app (e:=322) (by_:=16) (n:=(t.ws aj).length) (by rw [jy];exact hb) (by decide) (dR (enc:=IK) (λ_=> rfl) _) (ku (ex:=true) (n:=1) (m:=2) (l:=[I who,I id]) rfl) rfl (by unfold most;omega) (by unfold most;omega);have a2':Fit H H1 x x' 2 ((t.ws aj++[(who,id)]).flatMap IK):=by
    rw [zbT];rcases a2 with a2 | ⟨r0,gg,off,n',cap,ex,ty,all,k0,k1,k2⟩
    ·exact .inl a2
    ·exact .inr ⟨r0,gg,off,n',cap,ex,ty,all,k0,k1.imp (λh=> h) λh=> zau (za6 _) h,k2⟩
   have a5':∀r',r' < H.next->jf x≠some r'->H1.get r'=H.get r':=λr' hr hne=> by rw [a5 r' (zav hr (za6 _)) hne,cZ hr]
   obtain⟨H',m1,m2,m3,m4⟩:=f7 H1 x' _ (zau (za6 _) a3) (by rw [a4,jy];exact hb) a5' a2';have hgq:H1.get q=(H.new o).get q:=by rw [a5' q f5 f4,cZ f5]
   refine⟨H',?_,?_,Step.trans ⟨by rw [a4,jy],zau (za6 _) a3,λr' hr=> a5' r' (zav hr G.1) λe=> by have:=f6 r' e;omega⟩ m3⟩
   ·have ck1:∀{β:Type} (k:Option β),ck (bQ (.ref q 0 1)) (H.new o) H1 k=k:=λk=> adk λr' hr=> by
     simp only [bQ,zaa] at hr;subst hr;exact hgq
    have ed:bd 322 [(0,I who),(1,I id)]=some (.agg [I who,I id]):=by
     simp only [xq_,ajX,jX,gI,aeE];rfl
    have eb:=jS (e:=322) (m:=2) (z:=[zI,zI]) (v:=.agg [I who,I id]) (H:=H) rfl rfl rfl;simp only [fJ] at eb;simp only [o] at a1 ck1;cases ho:t.owned aj with
    | true=>
     rw [ho] at e1;simp only [xq_,PL,hneg,e1,f1,f2,ed,aem,zbo,Nat.reduceLeDiff,eb,a1,m1,ck1]
    | false=>
     rw [ho] at e1 hc;have hgt:(0:Int) < (t.ws aj).length:=by
      cases hz:t.ws aj with
      | nil=> rw [hz] at hc;simp at hc
      | cons a l=> simp only [zam];omega
     simp only [xq_,PL,hneg,e1,e2,hgt,f1,f2,ed,aem,zbo,Nat.reduceLeDiff,eb,a1,m1,ck1]
   ·have:iC { t with wait:=lG t.wait aj (t.ws aj++[(who,id)]) }=(iC t).set 1 (.maps .i64 2 (lG (CG t) aj ((t.ws aj++[(who,id)]).flatMap IK))):=by
     rw [Qd];rfl
    rw [this];exact m2
  ·have hp:t.ask aj who id=({ t with fP:=lG t.fP aj who },true):=by simp only [Turns.ask];rw [if_neg hneg,if_neg hc]
   rw [hp];have ho:t.owned aj=false:=by cases h1:t.owned aj <;> simp_all
   have hz:t.ws aj=[]:=by
    rw [ho] at hc;cases hz:t.ws aj with
    | nil=> rfl
    | cons a l=> rw [hz] at hc;simp at hc
   rw [ho] at e1;rw [hz] at e2;obtain⟨r,f1,_,_,f2⟩:=G.map h (i:=0) rfl;obtain⟨H',m1,m2,m3,m4⟩:=(f2 hb).1 aj (I who);refine⟨H',?_,?_,m3⟩
   ·have hgt:¬(0:Int) < (0:Nat):=by decide
    simp only [xq_,PL,hneg,e1,e2,zan,hgt,f1,m1]
   ·rw [Gl (λn=> I n)] at m2;exact m2
theorem Qe(G:Good b H g)(hb:H.base<=b){t:Turns}(h:g q=some (iC t))(aj who:Int):
  ∃H',cl 241 [.ref q 0 0,I aj,I who] H=some (I (t.release aj who).2,H')/\Good b H' (upd g q (iC (t.release aj who).1))/\Step b H H':=by
 refine kD rfl rfl (amW _ _ _ _ _) ?_;have e1:=xM G h aj;obtain⟨r,f1,f3,_,f2⟩:=G.map h (i:=0) rfl;have f4:=f3 (.int .i64 0) aj false;rw [xu] at f4;cases hr:jg t.fP aj with
 | none=>
  have hp:t.release aj who=(t,6):=by simp only [Turns.release,hr];rw [if_neg (by simp)]
  have ho:t.owned aj=false:=by simp [Turns.owned,hr]
  rw [hp];rw [ho] at e1;refine⟨H,?_,by rw [fF h];exact G,Step.refl _ _⟩;simp only [xq_,Vg,e1,zal]
 | some w=>
  have ho:t.owned aj=true:=by simp [Turns.owned,hr]
  rw [ho] at e1;simp only [hr,zak,zah,if_false] at f4;by_cases hw:w=who
  ·have hp:t.release aj who=({ t with fP:=xX t.fP aj },0):=by simp only [Turns.release,hr];rw [if_pos (by rw [hw])]
   rw [hp];obtain⟨H',m1,m2,m3,m4⟩:=(f2 hb).2 aj;refine⟨H',?_,?_,m3⟩
   ·simp only [xq_,Vg,e1,zae,f1,f4,hw,m1]
   ·rw [UK (λn=> I n)] at m2;exact m2
  ·have hp:t.release aj who=(t,6):=by simp only [Turns.release,hr];rw [if_neg (by simpa using hw)]
   rw [hp];refine⟨H,?_,by rw [fF h];exact G,Step.refl _ _⟩;simp only [xq_,Vg,e1,zae,zal,f1,f4,hw]
def anb(o:Option (Int × Int)):AV:=.tup [I (o.getD (0,0)).1,I (o.getD (0,0)).2,B o.isSome]
theorem aaD(G:Good b H g)(hb:H.base<=b){t:Turns}(h:g q=some (iC t))(hw:(t.wait.map (·.1)).Nodup)(aj:Int)(hl:(t.ws aj).length < 1000000):
  ∃H',cl 195 [.ref q 0 0,I aj] H=some (anb (t.next aj).2,H')/\Good b H' (upd g q (iC (t.next aj).1))/\Step b H H':=by
 refine kD rfl rfl (ame _ _ _ _) ?_;have e1:=xM G h aj;have e2:=wQ G h aj;cases ho:t.owned aj with
 | true=>
  have hp:t.next aj=(t,none):=by simp only [Turns.next,ho,if_true]
  rw [hp];rw [ho] at e1;refine⟨H,?_,by rw [fF h];exact G,Step.refl _ _⟩;simp only [xq_,Va,e1,anb,za1,zaG]
 | false=>
  rw [ho] at e1;cases hz:t.ws aj with
  | nil=>
   have hp:t.next aj=(t,none):=by simp only [Turns.next,ho,hz,zah,if_false]
   rw [hp];rw [hz] at e2;refine⟨H,?_,by rw [fF h];exact G,Step.refl _ _⟩;simp only [xq_,Va,e1,e2,zan,Int.ofNat_zero,anb,za1,zaG]
  | cons w l=>
   have hp:t.next aj=(⟨lG t.fP aj w.1,lG t.wait aj l⟩,some w):=by simp only [Turns.next,ho,hz,zah,if_false]
   rw [hp];rw [hz] at e2;obtain⟨r,x,f1,f2,f3,f4,f5,f6,f7⟩:=G.MQ h (i:=1) rfl (by rw [show t.wait.map (λe=> (e.1,e.2.flatMap λw=> [I w.1,I w.2]))=CG t from rfl,CJ];exact hw) aj;rw [show t.wait.map (λe=> (e.1,e.2.flatMap λw=> [I w.1,I w.2]))=CG t from rfl,Hq,hz] at f3;have hs:=f3.is (n:=(w::l).length) (by decide) (dR (enc:=IK) (λ_=> rfl) _);have s1:=hs.ix (k:=.i64) (i:=(0:Int)) (by omega) (by simp only [zam];omega);rw [show((0:Int).toNat)=0 from rfl] at s1;have s2:=oH (enc:=IK) (λ_=> rfl) hs (i:=0) (a:=w) rfl;have G1:=G.newObj (ty:=322) (xs:=[I w.1,I w.2]) rfl;have hqn:q≠H.next:=G.ne h
   have h1:upd g H.next ([I w.1,I w.2].map .av) q=some (iC t):=by rw [aZ hqn];exact h
   obtain⟨r',x',f1',f2',f3',f4',f5',f6',f7'⟩:=G1.MQ h1 (i:=1) rfl (by rw [show t.wait.map (λe=> (e.1,e.2.flatMap λw=> [I w.1,I w.2]))=CG t from rfl,CJ];exact hw) aj;rw [show t.wait.map (λe=> (e.1,e.2.flatMap λw=> [I w.1,I w.2]))=CG t from rfl,Hq,hz] at f3';have hln:=f3'.is (n:=(w::l).length) (by decide) (dR (enc:=IK) (λ_=> rfl) _);rcases f3' with⟨_,f3'⟩ | ⟨r0,gg,off,n',cap,ex,ty,all,rfl,k2,k3,k4,k5,k6,k7,k8⟩
   ·simp [IK] at f3'
   have hn':n'=l.length+1:=by have:=hln.2.2.1;simp only [zam] at this;omega
   subst hn';have sl:=Ei (r:=r0) (gg:=gg) (off:=off) (m:=2) (len:=l.length+1) (cap:=cap) (ex:=ex) (k1:=.i64) (lo:=1) (by decide) (by omega) k4;have t1:(1:Int).toNat=1:=rfl;rw [t1,zbo,Nat.add_sub_cancel] at sl;have hle:(l.length+1)*2<=cap*2:=zaB _ k4;have hfit:Fit (H.new (.blk 0 322 [I w.1,I w.2])) (H.new (.blk 0 322 [I w.1,I w.2])) (.sl r0 gg off 2 (l.length+1) cap ex) (.sl r0 gg (off+2) 2 l.length (cap - 1) ex) 2 (l.flatMap IK):=by
    refine .inr ⟨r0,gg,off+2,l.length,cap - 1,ex,ty,all,rfl,.inl rfl,k3,by omega,k5,by rw [Nat.sub_mul];omega,k7,?_⟩;have:=congrArg (List.drop 2) k8;rw [zaE,List.drop_append_of_le_length (by simp [IK]),show(IK w).drop 2=[] from rfl,zaJ,zcf,zbE] at this;rw [this]
    congr 1
    omega
   obtain⟨H2,m1,G2,m3,m4⟩:=f7' (H.new (.blk 0 322 [I w.1,I w.2])) _ _ (zac _) (by rw [jy];exact hb) (λ_ _ _=> rfl) hfit;have e3:(iC t).set 1 (.maps .i64 2 (lG (CG t) aj (l.flatMap IK)))=iC ⟨t.fP,lG t.wait aj l⟩:=by
    rw [Qd];rfl
   rw [show(List.map (λe=> (e.1,List.flatMap (λw=> [I w.1,I w.2]) e.2)) t.wait)=CG t from rfl,e3] at G2;obtain⟨ro,o1,_,_,o2⟩:=G2.map aU (i:=0) rfl;have hb2:H2.base<=b:=by rw [m3.base,jy];exact hb
   obtain⟨H3,p1,G3,p3,p4⟩:=(o2 hb2).1 aj (I w.1);have j2:∀cs,upd (upd g H.next ([I w.1,I w.2].map .av)) q cs H.next=some ([I w.1,I w.2].map .av):=λcs=> by rw [aZ hqn.symm,aU]
   have v1:=G2.load (j2 _) (i:=0) (x:=I w.1) rfl;rw [rV] at G3;have v2:=G3.load (j2 _) (i:=0) (x:=I w.1) rfl;have v3:=G3.load (j2 _) (i:=1) (x:=I w.2) rfl;refine⟨H3,?_,?_,((Step.new _ G.1).trans m3).trans p3⟩
   ·have hne:¬((l.length+1:Nat):Int)=0:=by omega
    have hbn:H.base<=H.next:=zau hb G.1
    simp only [IK] at s2;simp only [Nat.reduceAdd,aN,xq_,hq_,Va,e1,e2,hne,f1,f2,s1,s2,hbn,f1',f2',sl,m1,o1,v1,p1,v2,v3,anb,zar,zaI]
   ·rw [Gl (λn=> I n)] at G3;refine G3.sub ?_;exact((sW.refl g).more (G.isNone (zac _)) _).both q _
end
abbrev blw(n lo hi:Int):Bool:=decide (lo<=n) && decide (n < hi)
theorem ads(H:ah)(n lo hi:Int):cl 211 [I n,I lo,I hi] H=some (B (blw n lo hi),H):=by
 refine bg rfl rfl (agd _ _ _ _ _ ?_);by_cases h:lo<=n
 ·simp only [xq_,PG,h,blw,zaU]
 ·simp only [xq_,PG,h,blw,zaV]
theorem anc(a b c:Bool):a=false∨(a=true/\b=false)∨(a=true/\b=true/\c=false)∨(a=true/\b=true/\c=true):=by revert a b c;decide
theorem Pkt.ok_eq(p:Pkt):p.ok=(blw p.src 0 6 && blw p.dst 0 6 && blw p.id 0 4096 && (blw p.aO 1 10 && blw p.aj 0 8 && blw p.ptr (-1) 6) && blw p.aQ 0 3 && !decide ((4:Int) < p.data.length)):=by
 have:decide (p.data.length<=4)=!decide ((4:Int) < p.data.length):=by
  by_cases h:p.data.length<=4
  ·have:¬(4:Int) < p.data.length:=by omega
   simp [h,this]
  ·have:(4:Int) < p.data.length:=by omega
   simp [h,this]
 unfold Pkt.ok;rw [this];simp only [blw,Bool.and_assoc]
theorem Ar(H:ah)(p:Pkt):cl 174 [.agg p.av] H=some (I (if p.ok=true then 0 else 1),H):=by
 refine bU rfl rfl (afM _ _ _) ?_ gq;have e1:=λH n lo hi=> ads H n lo hi;have e2:=λH=> (mQ H p.data).lnS;rw [p.ok_eq];generalize a1:blw p.src 0 6=b1;generalize a2:blw p.dst 0 6=b2;generalize a3:blw p.id 0 4096=b3;generalize a4:blw p.aO 1 10=b4;generalize a5:blw p.aj 0 8=b5;generalize a6:blw p.ptr (-1) 6=b6;generalize a7:blw p.aQ 0 3=b7;by_cases h8:(4:Int) < p.data.length
 all_goals rcases anc b1 b2 b3 with rfl | ⟨rfl,rfl⟩ | ⟨rfl,rfl,rfl⟩ | ⟨rfl,rfl,rfl⟩
 all_goals rcases anc b4 b5 b6 with rfl | ⟨rfl,rfl⟩ | ⟨rfl,rfl,rfl⟩ | ⟨rfl,rfl,rfl⟩
 all_goals cases b7
 all_goals simp only [Nat.reduceLT,Int.reduceNeg,xq_,hq_,ZK,aF,Pkt.av,e1,e2,a1,a2,a3,a4,a5,a6,a7,h8,zae,zal,zaV,zbZ]
theorem JX(H:ah)(k:Int):cl 92 [I k] H=some (B (qK k),H):=by
 refine bU rfl rfl (aps _ _ _) ?_ gq;by_cases h:1<=k
 ·simp only [xq_,ahK,h,qK,zaU]
 ·simp only [xq_,ahK,h,qK,zaV]
theorem Qg(H:ah)(k:Int):cl 229 [I k] H=some (I (BI k),H):=by
 refine bU rfl rfl (amN _ _ _) ?_ gq;by_cases h1:k=1
 ·simp only [Int.reduceEq,xq_,DC,h1,BI]
 ·by_cases h2:k=2
  ·simp only [Int.reduceEq,xq_,DC,pR,h2,BI,true_or]
  ·by_cases h4:k=4
   ·simp only [Int.reduceEq,xq_,DC,pR,h4,BI,true_or,or_true]
   ·by_cases h5:k=5
    ·simp only [Int.reduceEq,xq_,DC,pR,h5,BI,or_true]
    ·by_cases h3:k=3
     ·simp only [Int.reduceEq,xq_,DC,pR,Ah,h3,BI,true_or,false_or]
     ·by_cases h6:k=6
      ·simp only [Int.reduceEq,xq_,DC,pR,Ah,h6,BI,or_true,false_or]
      ·simp only [xq_,DC,pR,Ah,h1,h2,h3,h4,h5,h6,BI,false_or]
theorem nX(z:Int):((by8 z).toNat:Int)=z % 256:=by
 unfold by8;have h:(BitVec.ofInt 8 z).toNat=(z % ((2 ^ 8:Nat):Int)).toNat:=BitVec.toNat_ofInt z;have h2:(0:Int)<=z % 256:=zb7 _ (by decide);rw [h,show((2 ^ 8:Nat):Int)=256 from rfl,zcZ h2]
theorem Vz(z:Int):(AV.s (.int .u8 (IntKind.wrap .u8 z)))=Y (by8 z):=by
 show _=AV.s (.int .u8 ((by8 z).toNat:Int));rw [nX,ae5 rfl];rfl
theorem apD(H:ah)(f:Bool):cl0 175 [B f] H=some (Y (by8 (if f then 1 else 0)),H):=by
 refine iG (alT _ _ _ ?_);cases f
 ·simp only [xq_,ZL];rfl
 ·simp only [xq_,ZL];rfl
def aq3(H0 H:ah)(x:AV)(l:List AV):Prop:=
 (x=zN/\l=[])∨(∃r g ty,x=.sl r g 0 1 l.length l.length false/\H0.next<=r/\r < H.next/\H.get r=.blk g ty l)∨(∃r ty,x=.sl r 0 0 1 l.length l.length true/\H0.next<=r/\r < H.next/\H.get r=.blk 0 ty l)
structure Acc(H0 H:ah)(x:AV)(l:List AV):Prop where
 gro:Gro H0 H
 base:H.base<=H0.next
 x:aq3 H0 H x l
theorem Acc.is {H0 H:ah}{x:AV}{l:List AV}(a:Acc H0 H x l):aW H x 1 l.length l:=by
 refine⟨by omega,?_⟩;rcases a.x with⟨rfl,rfl⟩ | ⟨r,g,ty,rfl,h1,h2,h3⟩ | ⟨r,ty,rfl,h0',h1,h2⟩
 ·exact⟨rfl,rfl,rfl⟩
 ·exact⟨rfl,rfl,⟨h2,zac _⟩,ty,l,h3,by omega,by simp⟩
 ·exact⟨rfl,rfl,⟨h1,zac _⟩,ty,l,h2,by omega,by simp⟩
theorem Acc.one {H0 H:ah}{x:AV}{l:List AV}(a:Acc H0 H x l):One x:=by
 rcases a.x with⟨rfl,rfl⟩ | ⟨r,g,ty,rfl,h1,h2,h3⟩ | ⟨r,ty,rfl,h0',h1,h2⟩
 ·exact qm
 ·exact qX
 ·exact qX
theorem Acc.apE {H0 H H':ah}{x:AV}{l:List AV}(a:Acc H0 H x l)(g:Gro H H'):Acc H0 H' x l:=by
 refine⟨a.gro.trans g,by rw [g.base];exact a.base,?_⟩;rcases a.x with h | ⟨r,g',ty,h0,h1,h2,h3⟩ | ⟨r,ty,h0,h0',h1,h2⟩
 ·exact .inl h
 ·exact .inr (.inl ⟨r,g',ty,h0,h1,zav h2 g.next,by rw [g.same r h2];exact h3⟩)
 ·exact .inr (.inr ⟨r,ty,h0,h0',zav h1 g.next,by rw [g.same r h1];exact h2⟩)
theorem Gro.put {H0 H:ah}{r g ty:Nat}{xs:List AV}(G:Gro H0 H)(hr:H0.next<=r):Gro H0 (H.put r (.blk g ty xs)):=
 ⟨G.next,G.base,λx hx=> by
  have:(H.put r (.blk g ty xs)).get x=H.get x:=by simp only [ah.put];rw [if_neg (by omega)]
  rw [this];exact G.same x hx,λh x k es=> by
  simp only [ah.put];split
  ·simp
  ·exact G.PS h x k es⟩
theorem Acc.app {H0 H:ah}{x:AV}{l:List AV}(a:Acc H0 H x l){e by_ n:Nat}{y:AV}{new:List AV}(hy:aW H y 1 n new)(hc:new.all AV.aX=true)(hn:n≠0)(hs:l.length+n < 1000)(hby:by_<=16):
  ∃x' H',app e 1 by_ x y H=some (x',H')/\Acc H0 H' x' (l++new):=by
 have hnew:new.length=n:=by have:=hy.1;omega
 obtain⟨c1,c2⟩:=hy.Dn;have hb1:n*by_<=most:=by
  have:n*by_<=1000*16:=Nat.mul_le_mul (by omega) hby;unfold most;omega
 have hb2:(l.length+n)*by_<=most:=by
  have:(l.length+n)*by_<=1000*16:=Nat.mul_le_mul (by omega) hby;unfold most;omega
 have hm1:n<=most:=by unfold most;omega
 have hm2:l.length+n<=most:=by unfold most;omega
 rcases a.x with⟨rfl,rfl⟩ | ⟨r,g,ty,rfl,h1,h2,h3⟩ | ⟨r,ty,rfl,h0',h1,h2⟩
 ·refine⟨_,_,YR hy hc hn hm1 hb1,a.gro.trans (Gro.new _ _ _ _),by rw [jy];exact a.base,.inr (.inl ⟨H.next,0,e+gV,?_,a.gro.next,by rw [fA];omega,?_⟩)⟩
  ·simp only [zaJ,hnew]
  ·rw [bF rfl,zaJ]
 ·refine⟨.sl r (g+1) 0 1 (l.length+n) (l.length+n) false,H.put r (.blk (g+1) (grT e ty 0) (l++new)),?_,a.gro.put h1,a.base,.inr (.inl ⟨r,g+1,grT e ty 0,?_,h1,h2,?_⟩)⟩
  ·simp only [Proofs.YtgplhpgkompkmaaGreat.app,c1,c2];unfold dW;rw [if_pos ⟨hy.1,hc⟩];simp only [h3];rw [if_pos ⟨trivial,trivial,by omega⟩,if_neg hn,if_neg (by omega),if_pos ⟨hm2,hb2⟩];simp only [zah,if_false,zaQ];rw [if_pos (zau a.base h1)];simp
  ·simp only [zao,hnew]
  ·simp only [ah.put,if_true]
 ·refine⟨.sl H.next 0 0 1 (l.length+n) (l.length+n) false,H.new (.blk 0 (e+gV) (l++new)),?_,a.gro.trans (Gro.new _ _ _ _),by rw [jy];exact a.base,.inr (.inl ⟨H.next,0,e+gV,?_,a.gro.next,by rw [fA];omega,bF rfl⟩)⟩
  ·simp only [Proofs.YtgplhpgkompkmaaGreat.app,c1,c2];unfold dW;rw [if_pos ⟨hy.1,hc⟩];simp only [h2];rw [if_pos ⟨trivial,trivial,by omega⟩,if_neg hn,if_neg (by omega),if_pos ⟨hm2,hb2⟩];simp
  ·simp only [zao,hnew]
theorem aaE(n:Int):∀k,k < 8->(qN n).drop (8 - (k+1))=by8 (n.fdiv (2 ^ (8*k)))::(qN n).drop (8 - k)
 | 0,_ | 1,_ | 2,_ | 3,_ | 4,_ | 5,_ | 6,_ | 7,_=> rfl
 | k+8,h=> absurd h (by omega)
theorem apF(H:ah)(hb:H.base<=H.next)(n:Int):∃y H',cl0 176 [I n] H=some (y,H')/\Acc H H' y ((qN n).map Y):=by
 have key:∀k:Nat,k<=8->∀(x:AV) (K:ah) (l:List By),Acc H K x (l.map Y)->l.length+k=8->∃y H',Ey cl0 [I n,x,I (8*(k:Int) - 8)] K=some (y,H')/\Acc H H' y ((l++(qN n).drop (8 - k)).map Y):=by
  intro k
  induction k with
  | zero=>
   intro hk x K l a hl;have h1:¬((0:Int)<=8*((0:Nat):Int) - 8):=by omega
   refine⟨x,K,?_,by rw [show(qN n).drop (8 - 0)=[] from rfl,zbl];exact a⟩;rw [U5];simp only [xq_,h1]
  | succ k ih=>
   intro hk x K l a hl;have h0:8*((k+1:Nat):Int) - 8=((8*k:Nat):Int):=by omega
   have h1:(0:Int)<=((8*k:Nat):Int):=by omega
   have e1:bi .shr 3 (I n) (I ((8*k:Nat):Int))=some (I (n.fdiv (2 ^ (8*k)))):=by
    have:=Sl (P:=Tryz.prog) (t:=3) (k:=.i64) (k':=.i64) (a:=n) h1;rw [zat,show min (8*k) (IntKind.bits .i64)=8*k from zbr (show 8*k<=64 by omega)] at this;exact this
   have e2:cv 3 5 (I (n.fdiv (2 ^ (8*k)))) K=some (Y (by8 (n.fdiv (2 ^ (8*k)))),K):=by rw [<-Vz];exact aeF
   obtain⟨c,hc⟩:∃c,by8 (n.fdiv (2 ^ (8*k)))=c:=⟨_,rfl⟩
   rw [hc] at e2;have b1:bs 220 1 [(0,Y c)] K=some (.sl K.next 0 0 1 1 1 true,K.new (.blk 0 5 [Y c])):=(UE (by decide)).trans (jS rfl rfl rfl);have a1:=a.apE (Gro.new K 0 5 [Y c]);obtain⟨x',K',p1,a2⟩:=a1.app (e:=5) (by_:=1) (n:=1) (ku (e:=5) (H:=K) (ex:=true) (n:=1) (m:=1) (l:=[Y c]) rfl) rfl (by decide) (by simp;omega) (by decide);have h2:((8*k:Nat):Int) - 8=8*(k:Int) - 8:=by omega
   have w:=wrap_i64 (a:=8*(k:Int) - 8) (by omega) (by omega);obtain⟨y,H',r1,r2⟩:=ih (by omega) x' K' (l++[c]) (by simpa using a2) (by simp;omega);refine⟨y,H',?_,?_⟩
   ·rw [U5,h0];simp only [xq_,h1,e1,e2,b1,p1,jR,h2,w,r1]
   ·rw [aaE n k (by omega),hc]
    simpa using r2
 obtain⟨y,H',r1,r2⟩:=key 8 (zac _) zN H [] ⟨Gro.refl H,hb,.inl ⟨rfl,rfl⟩⟩ rfl;refine⟨y,H',iG (alU _ _ _ ?_),by simpa using r2⟩;have:(8*((8:Nat):Int) - 8)=56:=rfl;rw [this] at r1;simp only [afO,r1]
theorem JY {z:AV}:∀(rest pre:List AV),(∀x∈rest,One x)->gI (λi=> some (i*1,1)) (pre++dY [z] rest.length) ((rest.zipIdx pre.length).map λp=> (p.2,p.1))=some (pre++rest)
 | [],pre,_=> by simp [dY,dX]
 | x::rest,pre,h=> by
  rw [List.zipIdx_cons,zaw,Gh (off:=pre.length) (by simp) (h x (by simp)).1 (by simp [dY])];have e:(pre++dY [z] (x::rest).length).set pre.length x=(pre++[x])++dY [z] rest.length:=by
   show(pre++([z]++dY [z] rest.length)).set pre.length x=_;rw [List.set_append_right _ _ (zac _),Nat.sub_self];simp
  rw [e];have ih:=JY (z:=z) rest (pre++[x]) λy hy=> h y (by simp [hy]);rw [zao,zam,zan,za3] at ih;rw [ih];simp
theorem adt {e:Nat}{z:AV}{l:List AV}{H:ah}(h:∀x∈l,One x):bsl e 1 [z] l.length ((l.zipIdx 0).map λp=> (p.2,p.1)) H=some (.sl H.next 0 0 1 l.length l.length true,H.new (.blk 0 e l)):=by
 have:=JY (z:=z) l [] h;simp only [zaJ,zan] at this;unfold bsl;rw [this];have ha:l.all AV.aX=true:=za2.2 λx hx=> (h x hx).2;simp only [ha,if_true]
theorem ane(H:ah)(n lo hi:Int):cl0 211 [I n,I lo,I hi] H=some (B (blw n lo hi),H):=by
 refine iG (agd _ _ _ _ _ ?_);by_cases h:lo<=n
 ·simp only [xq_,PG,h,blw,zaU]
 ·simp only [xq_,PG,h,blw,zaV]
theorem anf(H:ah)(p:Pkt){x:AV}(hx:kE H x p.data)(hok:p.ok=true):cl0 174 [.agg (p.avx x)] H=some (I 0,H.new (.blk 0 81 (p.avx x))):=by
 refine iG (afM _ _ _ ?_);have e1:=λH n lo hi=> ane H n lo hi;have e2:=(hx.is.new (.blk 0 81 (p.avx x))).lnS;rw [p.ok_eq] at hok;generalize a1:blw p.src 0 6=b1 at hok;generalize a2:blw p.dst 0 6=b2 at hok;generalize a3:blw p.id 0 4096=b3 at hok;generalize a4:blw p.aO 1 10=b4 at hok;generalize a5:blw p.aj 0 8=b5 at hok;generalize a6:blw p.ptr (-1) 6=b6 at hok;generalize a7:blw p.aQ 0 3=b7 at hok;simp only [zaf] at hok;obtain⟨⟨⟨⟨⟨rfl,rfl⟩,rfl⟩,⟨⟨rfl,rfl⟩,rfl⟩⟩,rfl⟩,a8⟩:=hok;have h8:¬(4:Int) < p.data.length:=by simpa using a8
 have ax:=ET (p:=p) hx.one;simp only [Pkt.avx] at e2 ax ⊢;simp only [Nat.reduceLT,Int.reduceNeg,xq_,hq_,ZK,aF ax,e1,e2,a1,a2,a3,a4,a5,a6,a7,h8,zae]
theorem qG:∀l:List Int,(l.flatMap qN).length=l.length*8
 | []=> rfl
 | v::l=> by rw [zaE,zao,qG l,jA,zam];omega
theorem ang {H:ah}(hb:H.base<=H.next)(p:Pkt){x:AV}(hx:kE H x p.data)(hok:p.ok=true):
  ∃y H',cl0 128 [.agg (p.avx x)] H=some (.tup [y,I 0],H')/\Gro H H'/\dI H' y (rZ p)/\H'.base<=H'.next:=by
 have hok2:=hok;simp only [Pkt.ok,zaf,decide_eq_true_eq] at hok2;have ax:=ET (p:=p) hx.one;let o:fU:=.blk 0 81 (p.avx x);let H1:=H.new o;let H2:=H1.new o;have g1:Gro H H1:=Gro.new H 0 _ _;have g2:Gro H1 H2:=Gro.new H1 0 _ _;have hb2:H2.base<=H2.next:=by simp only [H2,H1,jy,fA];omega
 have ck:=anf H1 p (hx.new o) hok;have at1:H1.get H.next=.blk 0 81 (p.avx x):=bF rfl
 have at2:H2.get H.next=.blk 0 81 (p.avx x):=by rw [g2.same _ (by simp only [H1,fA];omega)];exact at1
 have lx:(p.avx x).length=9:=rfl;have l1:lda 9 (.ref H.next 0 0) H1=some (.agg (p.avx x),H1):=(gy (off:=0) (n:=9) at1 (by rw [lx];exact zac _)).trans rfl;have lds:∀i v,(p.avx x)[i]?=some v->ld (.ref H.next 0 i) H2=some (v,H2):=λi v hv=> by rw [kS at2,hv];rfl
 have p0:=lds 0 (I p.aO) rfl;have p1:=lds 1 (I p.src) rfl;have p2:=lds 2 (I p.dst) rfl;have p3:=lds 3 (I p.id) rfl;have p4:=lds 4 (I p.aj) rfl;have p5:=lds 5 (I p.ptr) rfl;have p6:=lds 6 (I p.aQ) rfl;have p7:=lds 7 (B p.flag) rfl;have p8:=lds 8 x rfl;have cv1:∀z H,cv 3 5 (I z) H=some (Y (by8 z),H):=λz H=> by rw [<-Vz];exact aeF
 have sh1:bi .shr 3 (I p.id) (.s (.int .u64 8))=some (I (p.id.fdiv 256)):=Sl (P:=Tryz.prog) (t:=3) (k:=.i64) (k':=.u64) (a:=p.id) (n:=8) (by decide);have w1:=wrap_i64 (a:=p.ptr+1) (by omega) (by omega);have fl:=λH=> apD H p.flag;have hx2:=(hx.new o).new o;have ln2:=hx2.is.lnS;let hd:List By:=[by8 p.aO,by8 p.src,by8 p.dst,by8 (p.id.fdiv 256),by8 p.id,by8 p.aj,by8 (p.ptr+1),by8 p.aQ,by8 (if p.flag then 1 else 0),by8 p.data.length]
 have bsH:bs 220 10 [(0,Y (by8 p.aO)),(1,Y (by8 p.src)),(2,Y (by8 p.dst)),(3,Y (by8 (p.id.fdiv 256))),(4,Y (by8 p.id)),(5,Y (by8 p.aj)),(6,Y (by8 (p.ptr+1))),(7,Y (by8 p.aQ)),(8,Y (by8 (if p.flag then 1 else 0))),(9,Y (by8 p.data.length))] H2=some (.sl H2.next 0 0 1 10 10 true,H2.new (.blk 0 5 (hd.map Y))):=
  (UE (by decide)).trans (adt (l:=hd.map Y) λy hy=> by
   obtain⟨c,_,rfl⟩:=zaH.1 hy;exact ahU)
 let H3:=H2.new (.blk 0 5 (hd.map Y));have g3:Gro H2 H3:=Gro.new H2 0 _ _;have l3:ld (.ref H.next 0 8) H3=some (x,H3):=by
  rw [kS (by rw [g3.same _ (by simp only [H2,H1,fA];omega)];exact at2)];rfl
 have ln3:=(hx2.new (.blk 0 5 (hd.map Y))).is.lnS;have acc0:Acc H2 H3 (.sl H2.next 0 0 1 10 10 true) (hd.map Y):=⟨g3,by simp only [H3,jy];exact hb2,.inr (.inr ⟨H2.next,5,rfl,zac _,by simp only [H3,fA];omega,bF rfl⟩)⟩
 have key:∀k i,i+k=p.data.length->∀a K,Acc H2 K a ((hd++(p.data.take i).flatMap qN).map Y)->
   ∃y H',En cl0 [a,x,I p.data.length,I i] K=some (.tup [y,I 0],H')/\Gro H2 H'/\dI H' y (rZ p)/\H'.base<=H'.next:=by
  intro k
  induction k with
  | zero=>
   intro i hi a K ac;have h1:¬((i:Int) < p.data.length):=by omega
   rw [zaz (by omega)] at ac;have hlen:(fD p).length < 900:=by
    have h2:=rC p;unfold rZ jD at h2;simp only [zao,zam,zan,Pkt.bytes] at h2;omega
   have hbK:K.base<=K.next:=zau ac.base ac.gro.next
   have bK:dI K a (fD p):=by
    have:=ac.is;rw [zaD] at this;exact⟨this,by omega⟩
   obtain⟨y,H',e1,g',b',hb'⟩:=ahV hbK bK hlen;refine⟨y,H',?_,ac.gro.trans g',b',hb'⟩;rw [UU];simp only [xq_,h1,e1]
  | succ k ih=>
   intro i hi a K ac;have h1:(i:Int) < p.data.length:=by omega
   have h6:(i:Int)+1=((i+1:Nat):Int):=by omega
   have h7:=wrap_i64 (a:=((i+1:Nat):Int)) (by omega) (by omega);obtain⟨v,hv⟩:∃v,p.data[i]?=some v:=⟨_,zab (by omega)⟩
   have hxK:=hx2.is.jZ ac.gro.next λr _ hr=> ac.gro.same r hr
   have s1:=hxK.ix (k:=.i64) (i:=(i:Int)) (by omega) h1;rw [zat] at s1;have s2:ld (eU x i) K=some (I v,K):=by rw [hxK.ld (by omega),zaR,hv];rfl
   have hbK:K.base<=K.next:=zau ac.base ac.gro.next
   obtain⟨y,K1,e1,aw⟩:=apF K hbK v;have ac1:=ac.apE aw.gro;have hy:=aw.is;have hlt:(p.data.take i).length=i:=by rw [zax];omega
   obtain⟨a2,K2,e2,ac2⟩:=ac1.app (e:=5) (by_:=1) (n:=8) (by have h:=hy;rw [zaD,jA] at h;exact h) (acK _) (by decide) (by
    simp only [zaD,zao];have:((p.data.take i).flatMap qN).length=i*8:=by rw [qG,hlt]
    rw [this];simp only [hd,zam,zan];omega) (by decide)
   have hap:((hd++(p.data.take i).flatMap qN).map Y)++(qN v).map Y=(hd++(p.data.take (i+1)).flatMap qN).map Y:=by
    rw [zdH,hv];simp
   rw [hap] at ac2;obtain⟨y',H',r1,r2,r3,r4⟩:=ih (i+1) (by omega) a2 K2 ac2;refine⟨y',H',?_,r2,r3,r4⟩;rw [UU];simp only [xq_,h1,s1,s2,e1,e2,dF,h6,h7,r1]
 obtain⟨y,H',r1,r2,r3,r4⟩:=key p.data.length 0 (by omega) _ H3 (by simpa using acc0);refine⟨y,H',iG (alf _ _ _ ?_),(g1.trans g2).trans r2,r3,r4⟩;have z0:((0:Nat):Int)=0:=rfl;rw [z0] at r1;simp only [H1,H2,H3,o,fA] at ck l1 p0 p1 p2 p3 p4 p5 p6 p7 p8 ln2 bsH l3 ln3 r1;simp only [Nat.reduceLT,xq_,afm,aF ax,l1,ck,p0,p1,p2,p3,p4,p5,p6,p7,p8,cv1,sh1,dF,w1,fl,ln2,bsH,l3,ln3,zae,r1]
def nmS(s:BitVec 64)(l:List By):BitVec 64:=l.foldl (λs c=> (s <<< 8) ||| c.setWidth 64) s
def nmV(l:List By):Int:=(nmS 0#64 l).toInt
theorem Xc(s:BitVec 64):IntKind.wrap .i64 (s.toNat:Int)=s.toInt:=by
 have h:=s.isLt;simp only [IntKind.wrap,IntKind.bits,IntKind.signed,BitVec.toInt_eq_toNat_cond,zaU,decide_eq_true_eq,ge_iff_le];split <;> split <;> omega
theorem aif {H:ah}{y:AV}{l:List By}(hx:dI H y l):cl0 180 [y] H=some (I (nmV l),H):=by
 have key:∀(k i:Nat),i+k=l.length->∀s:BitVec 64,Ez cl0 [U64 s,y,I l.length,I i] H=some (I (nmS s (l.drop i)).toInt,H):=by
  intro k
  induction k with
  | zero=>
   intro i hi s;have h1:¬((i:Int) < l.length):=by omega
   have e1:cv 262 3 (U64 s) H=some (I s.toInt,H):=by rw [<-Xc];exact acz (k:=.u64)
   rw [U7,zaS (by omega)];simp only [xq_,h1,e1]
   try rfl
  | succ k ih=>
   intro i hi s;have h1:(i:Int) < l.length:=by omega
   have h6:(i:Int)+1=((i+1:Nat):Int):=by omega
   have h7:=wrap_i64 (a:=((i+1:Nat):Int)) (by have:=hx.small;omega) (by have:=hx.small;omega);obtain⟨c,hc⟩:∃c,l[i]?=some c:=⟨_,zab (by omega)⟩
   have s1:=hx.ix (i:=i) (by omega);have s2:=hx.ld hc;have e1:cv 5 262 (Y c) H=some (U64 (c.setWidth 64),H):=
    (acw (k:=.u8) (n:=(c.toNat:Int)) (H:=H)).trans (congrArg (λv=> some (v,H)) (ako (k:=.u8) (k':=.u64) rfl c))
   have e2:bi .shl 262 (U64 s) (.s (.int .u64 8))=some (U64 (s <<< 8)):=Zb (k:=.u64) rfl s 8 (by decide) (by decide);have e3:bi .or 262 (U64 (s <<< 8)) (U64 (c.setWidth 64))=some (U64 ((s <<< 8) ||| c.setWidth 64)):=aqF (k:=.u64) rfl _ _;have hd:l.drop i=c::l.drop (i+1):=by
    rw [zbA (by omega)];rw [zab (by omega)] at hc;rw [zaZ hc]
   have ih1:=ih (i+1) (by omega) ((s <<< 8) ||| c.setWidth 64);have e5:nmS s (c::l.drop (i+1))=nmS ((s <<< 8) ||| c.setWidth 64) (l.drop (i+1)):=rfl;rw [U7,hd,e5,<-ih1];simp only [xq_,h1,s1,s2,e1,e2,e3,dF,h6,h7]
   try rfl
 refine iG (alX _ _ _ ?_);have s0:=hx.is.lnS;have k0:=key l.length 0 (by omega) 0#64;rw [zaQ] at k0;simp only [xq_,afS,s0];exact k0
theorem or8 {s:BitVec 64}(c:By)(h:s.toNat < 2 ^ 56):((s <<< 8) ||| c.setWidth 64).toNat=s.toNat*256+c.toNat:=by
 have hc:=c.isLt;have h1:(s <<< 8).toNat=s.toNat <<< 8:=by
  rw [BitVec.toNat_shiftLeft,zcx];rw [zdk];omega
 have h2:(c.setWidth 64).toNat=c.toNat:=by rw [BitVec.toNat_setWidth,zcx (by omega)]
 rw [BitVec.toNat_or,h1,h2,<-Nat.shiftLeft_add_eq_or_of_lt hc,zdk]
theorem rG {N b:Nat}{s:BitVec 64}{c:By}(hs:s.toNat=N / (b*256))(hc:c.toNat=N / b % 256)(hN:N < 2 ^ 64)(hb:0 < b):((s <<< 8) ||| c.setWidth 64).toNat=N / b:=by
 have h0:N / (b*256)=N / b / 256:=(Nat.div_div_eq_div_mul N b 256).symm;have h1:N / b<=N:=Nat.div_le_self N b;rw [or8 c (by rw [hs,h0];omega),hs,hc,h0];omega
theorem aaF(n:Int)(j:Nat)(hj:j+8<=64):(n / 2 ^ j) % 256=((n % 18446744073709551616) / 2 ^ j) % 256:=by
 have h64:(18446744073709551616:Int)=2 ^ j*2 ^ (64 - j):=by
  rw [<-Int.pow_add,show j+(64 - j)=64 by omega];rfl
 have h256:(2:Int) ^ (64 - j)=256*2 ^ (56 - j):=by
  rw [show 64 - j=8+(56 - j) by omega,Int.pow_add];rfl
 have hne:(2:Int) ^ j≠0:=Int.pow_ne_zero (by decide);have hq:n=n % 18446744073709551616+2 ^ j*(2 ^ (64 - j)*(n / 18446744073709551616)):=by
  rw [<-Int.mul_assoc,<-h64];exact(Int.emod_add_mul_ediv n 18446744073709551616).symm
 obtain⟨r,hr⟩:∃r,n % 18446744073709551616=r:=⟨_,rfl⟩
 obtain⟨q,hqq⟩:∃q,n / 18446744073709551616=q:=⟨_,rfl⟩
 rw [hr,hqq] at hq;rw [hr,hq,Int.add_mul_ediv_left _ _ hne,h256,Int.mul_assoc,Int.add_mul_emod_self_left]
theorem aaG(n:Int)(k:Nat)(hk:k < 8){N:Nat}(hN:(N:Int)=n % 18446744073709551616):(by8 (n.fdiv (2 ^ (8*k)))).toNat=N / 2 ^ (8*k) % 256:=by
 have h:=nX (n.fdiv (2 ^ (8*k)));have hp:(0:Int)<=2 ^ (8*k):=Int.pow_nonneg (by decide);rw [zbW _ hp] at h ⊢;rw [aaF n (8*k) (by omega),<-hN] at h;have h2:((N:Int) / 2 ^ (8*k)) % 256=((N / 2 ^ (8*k) % 256:Nat):Int):=by
  rw [Int.natCast_emod,Int.natCast_ediv,Int.natCast_pow];rfl
 rw [h2] at h;exact Int.ofNat_inj.1 h
theorem MR {n:Int}(h:I64 n):nmV (qN n)=n:=by
 obtain⟨h1,h2⟩:=h;obtain⟨N,hN⟩:∃N:Nat,(N:Int)=n % 18446744073709551616:=⟨(n % 18446744073709551616).toNat,zcZ (zb7 _ (by decide))⟩
 have hlt:N < 2 ^ 64:=by omega
 have w:=λk hk=> aaG n k hk hN;have s7:=rG (N:=N) (b:=2 ^ 56) (s:=0#64) (by rw [Nat.div_eq_of_lt (by omega)];rfl) (w 7 (by decide)) hlt (by decide);have s6:=rG (b:=2 ^ 48) s7 (w 6 (by decide)) hlt (by decide);have s5:=rG (b:=2 ^ 40) s6 (w 5 (by decide)) hlt (by decide);have s4:=rG (b:=2 ^ 32) s5 (w 4 (by decide)) hlt (by decide);have s3:=rG (b:=2 ^ 24) s4 (w 3 (by decide)) hlt (by decide);have s2:=rG (b:=2 ^ 16) s3 (w 2 (by decide)) hlt (by decide);have s1:=rG (b:=2 ^ 8) s2 (w 1 (by decide)) hlt (by decide);have s0:=rG (b:=1) s1 (w 0 (by decide)) hlt (by decide);have e:(nmS 0#64 (qN n)).toNat=N / 1:=s0;unfold nmV;rw [BitVec.toInt_eq_toNat_cond,e];split <;> omega
theorem uU {a b:Int}(h:by8 a=by8 b):a % 256=b % 256:=by
 have:=congrArg (λc:By=> (c.toNat:Int)) h;simp only [nX] at this;exact this
theorem Qh:∀{l m:List Int},(∀v∈l,I64 v)->(∀v∈m,I64 v)->l.flatMap qN=m.flatMap qN->l=m
 | [],[],_,_,_=> rfl
 | [],b::m,_,_,h=> by have:=congrArg List.length h;rw [qG,qG] at this;simp at this
 | a::l,[],_,_,h=> by have:=congrArg List.length h;rw [qG,qG] at this;simp at this
 | a::l,b::m,hl,hm,h=> by
  rw [zaE,zaE] at h;obtain⟨h1,h2⟩:=List.append_inj h rfl;have h3:=congrArg nmV h1;rw [MR (hl a (by simp)),MR (hm b (by simp))] at h3;rw [h3,Qh (λv hv=> hl v (by simp [hv])) (λv hv=> hm v (by simp [hv])) h2]
theorem adu {p q:Pkt}(hp:p.fit)(hq:q.fit)(h:rZ p=rZ q):p=q:=by
 unfold rZ jD at h;have hlen:(fD p).length=(fD q).length:=by
  have:=congrArg List.length h;simp only [zao,zam,zan] at this;omega
 obtain⟨h1,_⟩:=List.append_inj h hlen;unfold fD at h1;obtain⟨h2,h3⟩:=List.append_inj h1 rfl;have hd:=Qh hp.num hq.num h3;have a:=hp.ok;have b:=hq.ok;simp only [Pkt.ok,zaf,decide_eq_true_eq] at a b;simp only [zbK,and_true] at h2;obtain⟨e1,e2,e3,e4,e5,e6,e7,e8,e9,_⟩:=h2;have i1:=uU e1;have i2:=uU e2;have i3:=uU e3;have i4:=uU e4;have i5:=uU e5;have i6:=uU e6;have i7:=uU e7;have i8:=uU e8;have i9:=uU e9;rw [zbW _ (by decide),zbW _ (by decide)] at i4;rcases p with⟨p1,p2,p3,p4,p5,p6,p7,p8,p9⟩
 rcases q with⟨q1,q2,q3,q4,q5,q6,q7,q8,q9⟩
 simp only at*;have f8:p8=q8:=by
  cases p8 <;> cases q8 <;> first | rfl | (simp at i9)
 subst hd;subst f8;have:p1=q1/\p2=q2/\p3=q3/\p4=q4/\p5=q5/\p6=q6/\p7=q7:=by omega
 obtain⟨rfl,rfl,rfl,rfl,rfl,rfl,rfl⟩:=this;rfl
end
end Go.Proofs.YtgplhpgkompkmaaGreat
