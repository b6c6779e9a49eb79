/-
  Own work: an interpreter over named blocks, its soundness, and what the functions of this seat compute (part 5 of 11).
  Conditions: those of the statement alone.
-/
import Derived.Test.YtmdbbfoefdjgoaaGreatXd
set_option linter.all false
set_option linter.unusedSectionVars false
set_option linter.unusedVariables false
set_option linter.unusedSimpArgs false
namespace Go.Proofs.YtmdbbfoefdjgoaaGreat
noncomputable section
theorem aby(c:Cfg)(eF:Rows)(n:Int)(r:Row):(Bo c eF).set 8 (.map .i64 (Io (LQ (λr=> .agg r.av) eF) n (.agg r.av)))=Bo c (nC eF n r):=by
 have:=zS (f:=λr:Row=> AV.agg r.av) eF n r;rw [this];rfl
theorem YI(H:ah)(hb:H.base<=H.next)(c:Cfg)(h:c.ok=true)(me:Int):∃H' q,cl 72 [.agg c.av,I me] H=some (.ref q 0 0,H')/\Made H H' (upd oW q (Bo c (c.nG me c.aW.toNat))):=by
 have B:=uN h;let Hb:=H.new (.blk 0 24 c.av);let Hm:=Hb.new (.map .i64 []);let H0:=Hm.new (.blk 0 199 (c.av++[.mp (H.next+1)]));have M0:Made Hb H0 (upd oW (H.next+2) (Bo c [])):=by
  refine Nh (H':=Hm) (by simp only [Hb,dL];omega) (by simp only [Hm,Hb,dL]) rfl (λr hr=> aS hr) (by rw [zbF,eu];rfl) (by simp [Bo]) (λr=> if r=H.next+1 then some 8 else none) λi cc x hc hx=> ?_;by_cases hi:i < 8
  ·left;simp only [Bo] at hc;rw [zaP (by simp [Cfg.av];omega),zaD] at hc;rw [zaP (by simp [Cfg.av];omega)] at hx;rw [hx] at hc;exact(zaX hc).symm
  ·have:i=8:=by
    have:=(zak.1 hx).1;simp [Cfg.av] at this;omega
   subst this;right;right;cases hc;cases hx;exact⟨H.next+1,.i64,rfl,by simp only [Hb,dL];omega,by omega,by simp,aJ (by simp only [Hb,dL]),.inl rfl⟩
 have key:∀k i,i+k=c.aW.toNat->∀Hi,Made Hb Hi (upd oW (H.next+2) (Bo c (c.nG me i)))->∃H',Jm cl [I me,.ref H.next 0 0,.ref (H.next+2) 0 0,I c.aW,I i] Hi=some (.ref (H.next+2) 0 0,H')/\Made Hb H' (upd oW (H.next+2) (Bo c (c.nG me c.aW.toNat))):=by
  intro k
  induction k with
  | zero=>
   intro i hi Hi M;have h1:¬(i:Int) < c.aW:=by omega
   rw [XL];refine⟨Hi,?_,by rw [show c.aW.toNat=i by omega];exact M⟩;simp only [Int.reduceNeg,xq_,h1]
  | succ k ih=>
   intro i hi Hi M;have h1:(i:Int) < c.aW:=by omega
   have hbx:Hi.get H.next=.blk 0 24 c.av:=by rw [M.same _ (by simp only [Hb,dL];omega)];exact aJ rfl
   have hbn:H.next < Hi.next:=zau (by simp only [Hb,dL];omega) M.next
   have e1:lda 8 (.ref H.next 0 0) Hi=some (.agg c.av,Hi):=(fO (off:=0) (n:=8) hbx (zac 8)).trans rfl;have e2:=uO Hi c h i;have h6:(i:Int)+1=((i+1:Nat):Int):=by omega
   have h7:=wrap_i64 (a:=((i+1:Nat):Int)) (by have:=B.aW;omega) (by have:=B.aW;omega);have tail:∀Hj,Made Hb Hj (upd oW (H.next+2) (Bo c (c.nG me (i+1))))->∃H',Jo cl (I me) (.ref H.next 0 0) (.ref (H.next+2) 0 0) (I c.aW) (I i) Hj=some (.ref (H.next+2) 0 0,H')/\Made Hb H' (upd oW (H.next+2) (Bo c (c.nG me c.aW.toNat))):=by
    intro Hj Mj;obtain⟨H',a1,a2⟩:=ih (i+1) (by omega) Hj Mj;refine⟨H',?_,a2⟩;simp only [xq_,Jo,bI,h6,h7,a1]
   rw [XL];by_cases hm:c.fA i=me
   ·obtain⟨r,f1,f2,f3,f4⟩:=M.good.map (q:=H.next+2) aN (i:=8) rfl;obtain⟨H',g1,g2,g3,g4⟩:=(f4 (by rw [M.base];simp only [Hb,iC,dL];omega)).1 i (.agg (Row.av ⟨0,-1,c.first i⟩));simp only [Row.av] at g1;have e3:=SY Hi.guard c h i (by omega) h1;have Mj:Made Hb H' (upd oW (H.next+2) (Bo c (c.nG me (i+1)))):=by
     refine(M.step g2 g3).as ?_;rw [qB,aby];simp only [Cfg.nG,hm,if_true]
    obtain⟨H2,t1,t2⟩:=tail H' Mj;refine⟨H2,?_,t2⟩;simp only [Int.reduceNeg,Nat.reduceAdd,aG,xq_,hq_,h1,e1,e2,hm,f1,e3,ahV,jo,fJ,acN,g1,t1]
   ·have hm':¬(c.fA i=me):=hm;obtain⟨H2,t1,t2⟩:=tail Hi (M.as (by simp only [Cfg.nG,hm,if_false]));refine⟨H2,?_,t2⟩;simp only [Int.reduceNeg,xq_,h1,e1,e2,hm,t1]
 obtain⟨H',a1,a2⟩:=key c.aW.toNat 0 (by omega) H0 M0;refine⟨H',H.next+2,aX rfl rfl (anG _ _ _ _ (r:=(_,H')) ?_),a2.wS⟩;have l1:c.av[1]?=some (I c.aW):=rfl;have e:∀r,bd 199 [(0,.agg c.av),(1,.mp r)]=some (.agg (c.av++[.mp r])):=λr=> by
  simp only [xq_,ah1,jo,fJ,acU,Cfg.av,eH];rfl
 have e2:∀r,(c.av++[AV.mp r]).all AV.aU=true:=λr=> by rw [zbF,eu];rfl
 simp only [Nat.reduceLT,xq_,hq_,ajd,aC (eu c),e,aC (e2 _),l1];exact a1
theorem lK {b n:Nat}{H1:ah}{g g':bg}{q:Nat}{cs:List Cell}(G:Good b H1 g)(h:g q=some cs)(hn:H1.next=n):cup n g g' q=some cs:=by
 unfold cup;rw [if_pos (by have:=G.lt h;omega),h]
theorem oQ {b n:Nat}{H1:ah}{g g':bg}{q:Nat}{cs:List Cell}(G:Good b H1 g')(h:g' q=some cs)(hn:n<=b):cup n g g' q=some cs:=by
 unfold cup;rw [if_neg (by have:=G.le h;omega),h]
theorem drawn {H H':ah}{x:Option (AV × ah)}{v:AV}{g:bg}(e:x=some (v,H'))(M:Made H.guard H' g):∃H2,unG H x=some (v,H2)/\Made H H2 g:=
 ⟨_,by rw [e];rfl,M.abq⟩
theorem iH {H:ah}{r:Nat}{ty:TypeId}{c:Cfg}(h:H.get r=.blk 0 ty c.av):lda 8 (.ref r 0 0) H=some (.agg c.av,H):=(fO (off:=0) (n:=8) h (zac 8)).trans rfl
theorem aH.YJ {P:Program}{t e:TypeId}(h:P.underlying t=some (.slice e)){H:ah}{x:AV}{m n:Nat}{cells:List AV}(hx:aH H x m n cells)(hn:n≠0):nV P .eql t x (.s (.slice none 0 0))=some (B false):=by
 obtain⟨_,hx⟩:=hx;cases x with
 | sl r g o m n c ex=> exact zO h
 | vs n m l=> exact qR h
 | s v=>
  cases v with
  | slice a b c=>
   cases a with
   | none=> exact absurd hx.2.2 hn
   | some a=> exact hx.elim
  | _=> exact hx.elim
 | _=> exact hx.elim
def Ae(d t:Nat)(c:Cfg)(me:Int):List Cell:=[.av (.ref d 0 0),.av (.ref t 0 0)]++c.av.map .av++[.av (I me)]
def lT(g:bg)(q d t:Nat)(c:Cfg)(me:Int)(h:Home):Prop:=g q=some (Ae d t c me)/\g d=some (Bo c h.eF)/\g t=some (gU h.bV)
theorem Nl {xs:List AV}{cs:List Cell}(h:cs=xs.map .av):∀(i:Nat) (c:Cell) (x:AV),cs[i]?=some c->xs[i]?=some x->c=.av x∨(x=zN/\∃m,c=.seq m []):=by
 subst h;intro i c x hc hx;rw [zaD,hx] at hc;exact .inl (zaX hc).symm
theorem af8(H:ah)(hb:H.base<=H.next)(c:Cfg)(h:c.ok=true)(me:Int):∃H' q d t g',cl 40 [.agg c.av,I me] H=some (.ref q 0 0,H')/\Made H H' g'/\lT g' q d t c me (.new c me):=by
 let H1:=H.new (.blk 0 24 c.av);obtain⟨H2',d,e1,M1⟩:=YI H1.guard (zac _) c h me;obtain⟨H2,e1,M1⟩:=drawn e1 M1;obtain⟨H3',t,e2,M2⟩:=abt H2.guard;obtain⟨H3,e2,M2⟩:=drawn e2 M2;let xs:List AV:=[.ref d 0 0,.ref t 0 0]++c.av++[I me]
 have hall:xs.all AV.aU=true:=by
  simp only [xs,zbF,eu];rfl
 have M3:Made H3 (H3.new (.blk 0 157 xs)) (upd oW H3.next (Ae d t c me)):=lJ hall (by simp [xs,Ae]) (Nl (by simp [xs,Ae]));have g1:H1.get H.next=.blk 0 24 c.av:=aJ rfl
 have l1:H.next < H1.next:=by simp only [H1,dL];omega
 have b1:=iH g1;have g2:H2.get H.next=.blk 0 24 c.av:=by rw [M1.same _ l1,g1]
 have g3:H3.get H.next=.blk 0 24 c.av:=by rw [M2.same _ (zau l1 M1.next),g2]
 have b3:=iH g3;refine⟨_,H3.next,d,t,_,aX rfl rfl (ang _ _ _ _ (r:=(_,H3.new (.blk 0 157 xs))) ?_),((M1.trans M2).trans M3).wS,?_⟩
 ·have e:bd 157 [(0,.ref d 0 0),(1,.ref t 0 0),(2,.agg c.av),(3,I me)]=some (.agg xs):=by
   simp only [xq_,ahZ,jo,fJ,acS,Cfg.av,eH];rfl
  simp only [H1] at e1 b1;simp only [Nat.reduceLT,xq_,hq_,aiQ,aC (eu c),b1,e1,e2,b3,e,aC hall]
 ·refine⟨oQ M3.good aN (zac _),lK (M1.good.merge M2) (lK M1.good aN rfl) rfl,lK (M1.good.merge M2) (oQ M2.good aN (zac _)) rfl⟩
theorem af9(H:ah)(l:List Opn)(hl:l.length < 1000000000){x:AV}(hx:aH H x 3 l.length (l.flatMap Opn.av))(h0:l=[]->x=zN):∃H' q,cl 39 [x] H=some (.ref q 0 0,H')/\Made H H' (upd oW q (oP ⟨l,[],false⟩)):=by
 have e1:=abu H l hl hx h0 λhn=> hx.YJ Tryz.underlying27 λe=> hn (zan e);have hc:(vsl 3 Opn.av l).cells=[vsl 3 Opn.av l]:=Ec;refine⟨_,H.next,aX rfl rfl (ane _ _ _ (r:=(_,H.new (.blk 0 111 [vsl 3 Opn.av l,zN,zB]))) ?_),lJ ?_ rfl λi c x hc hx=> ?_⟩
 ·simp only [Nat.reduceLT,Nat.reduceAdd,aG,xq_,hq_,aiP,e1,ahT,jo,fJ,acK,aC]
 ·simp only [hq_]
 ·match i with
  | 0=> left;cases hc;cases hx;rfl
  | 1=> right;cases hc;cases hx;exact⟨rfl,1,rfl⟩
  | 2=> left;cases hc;cases hx;rfl
  | i+3=> cases hc
theorem Made.add {H H1 H2:ah}{g:bg}{q:Nat}{cs:List Cell}(M:Made H H1 g)(M':Made H1 H2 (upd oW q cs)):Made H H2 (upd g q cs):=
 (M.trans M').as ((M.good.alb (M'.lt aN).1).symm)
def FC(a:Nat->Nat)(c:Cfg)(me:Int)(d:dF)(num:Int):List AV:=[.ref (a 1) 0 0,.ref (a 2) 0 0]++c.av++[I me,.ref (a 3) 0 0]++d.av++[I num]
def uP(a:Nat->Nat)(c:Cfg)(me:Int)(d:dF)(num:Int):List Cell:=(FC a c me d num).map .av
def nH(g:bg)(a:Nat->Nat)(c:Cfg)(me:Int)(n:Node):Prop:=
 g (a 0)=some (uP a c me n.dO n.num)/\g (a 1)=some (bJ n.aT)/\g (a 2)=some (oP n.dK)/\lT g (a 3) (a 4) (a 5) c me n.home
theorem Np {a:Nat->Nat}{c:Cfg}{me:Int}{d:dF}{num:Int}:(FC a c me d num).all AV.aU=true:=by
 simp only [FC,zbF,eu,aZ];rfl
def six(x0 x1 x2 x3 x4 x5:Nat):Nat->Nat
 | 0=> x0
 | 1=> x1
 | 2=> x2
 | 3=> x3
 | 4=> x4
 | _=> x5
theorem YK(H:ah)(c:Cfg)(h:c.ok=true)(me:Int)(l:List Opn)(hl:l.length < 1000000000){x:AV}(hx:aH H x 3 l.length (l.flatMap Opn.av))(h0:l=[]->x=zN):
  ∃H' a g',cl 15 [.agg c.av,I me,x] H=some (.ref (a 0) 0 0,H')/\Made H H' g'/\nH g' a c me (.new c me l):=by
 have Bd:=uN h;let H1:=H.new (.blk 0 24 c.av);obtain⟨H2',q1,e1,M1⟩:=abr H1.guard c.sets c.ways Bd.sets.1 Bd.ways.1;obtain⟨H2,e1,M1⟩:=drawn e1 M1;have hx2:aH H2 x 3 l.length (l.flatMap Opn.av):=(hx.new (.blk 0 24 c.av)).fV M1.next λr _ hr=> M1.same r hr
 obtain⟨H3',q2,e2,M2⟩:=af9 H2.guard l hl hx2.guard h0;obtain⟨H3,e2,M2⟩:=drawn e2 M2;obtain⟨H4',q3,q4,q5,g4,e3,M3,I3⟩:=af8 H3.guard (zac _) c h me;obtain⟨H4,e3,M3⟩:=drawn e3 M3;let a:=six H4.next q1 q2 q3 q4 q5
 let xs:=FC a c me .zero 0;have M4:Made H4 (H4.new (.blk 0 64 xs)) (upd oW H4.next (uP a c me .zero 0)):=lJ Np (by simp [xs,uP]) (Nl rfl);have g1:H1.get H.next=.blk 0 24 c.av:=aJ rfl
 have l1:H.next < H1.next:=by simp only [H1,dL];omega
 have l3:H.next < H3.next:=zau l1 (zas M1.next M2.next)
 have b1:=iH g1;have g2:H2.get H.next=.blk 0 24 c.av:=by rw [M1.same _ l1,g1]
 have g3:H3.get H.next=.blk 0 24 c.av:=by rw [M2.same _ (zau l1 M1.next),g2]
 have b3:=iH g3;have G12:=M1.good.merge M2;have ald:=G12.merge M3;refine⟨_,a,_,aX rfl rfl (amY _ _ _ _ _ (r:=(_,H4.new (.blk 0 64 xs))) ?_),(((M1.trans M2).trans M3).trans M4).wS,?_⟩
 ·have e:bd 64 [(0,.ref q1 0 0),(1,.ref q2 0 0),(2,.agg c.av),(3,I me),(4,.agg [.ref q3 0 0])]=some (.agg xs):=by
   simp only [xq_,amG,jo,fJ,ahO,Cfg.av,eH];rfl
  have l3:c.av[3]?=some (I c.sets):=rfl;have l4:c.av[4]?=some (I c.ways):=rfl;have bx:∀r,(AV.ref r 0 0).cells=[.ref r 0 0]:=λ_=> rfl;have eb:∀r,bd 60 [(0,.ref r 0 0)]=some (.agg [.ref r 0 0]):=λr=> by
   simp only [xq_,amF,jo,fJ,ahM];rfl
  simp only [H1] at e1 b1;simp only [Nat.reduceLT,xq_,hq_,aiw,aC (eu c),l3,l4,e1,e2,e3,b3,eb,e,aC Np,xs];rfl
 ·refine⟨oQ M4.good aN (zac _),lK ald (lK G12 (lK M1.good aN rfl) rfl) rfl,lK ald (lK G12 (oQ M2.good aN (zac _)) rfl) rfl,?_⟩;obtain⟨i1,i2,i3⟩:=I3;exact⟨lK ald (oQ M3.good i1 (zac _)) rfl,lK ald (oQ M3.good i2 (zac _)) rfl,lK ald (oQ M3.good i3 (zac _)) rfl⟩
def mG(a:Nat->Nat):List AV:=[.ref (a 0) 0 0,.ref (a 1) 0 0,.ref (a 2) 0 0,.ref (a 3) 0 0]
def abz(P:Nat->Nat->Nat)(n:Nat):List Cell:=[.seq 4 ((List.range n).flatMap λi=> mG (P i))]
def tJ(g:bg)(a:Nat->Nat)(c:Cfg)(p:Port):Prop:=
 g (a 0)=some (lQ p.rq c.out)/\g (a 1)=some (lQ p.rin c.inn)/\g (a 2)=some (lQ p.an c.out)/\g (a 3)=some (lQ p.ain 1)
def Qk(P:Nat->Nat->Nat)(n:Nat):Prop:=∀i j s t,i < n->j < n->s < 4->t < 4->P i s=P j t->i=j/\s=t
def gY(g:bg)(f:Nat)(P:Nat->Nat->Nat)(c:Cfg)(fab:Fab):Prop:=
 g f=some (abz P fab.l.length)/\(∀i p,fab.l[i]?=some p->tJ g (P i) c p)/\fab.out=c.out/\fab.inn=c.inn
def aog(x0 x1 x2 x3:Nat):Nat->Nat
 | 0=> x0
 | 1=> x1
 | 2=> x2
 | _=> x3
theorem G8 {P P':Nat->Nat->Nat}:∀n,(∀i,i < n->P' i=P i)->(List.range n).flatMap (λi=> mG (P' i))=(List.range n).flatMap λi=> mG (P i)
 | 0,_=> rfl
 | n+1,h=> by
  rw [zch,zbE,zbE,G8 n λi hi=> h i (by omega)];simp only [zaQ,List.flatMap_nil,h n (by omega)]
theorem qg(P:Nat->Nat->Nat)(n:Nat):((List.range n).flatMap λi=> mG (P i)).length=n*4:=by
 rw [dh (m:=4) (λ_=> rfl),zcK]
theorem tJ.ext {g g':bg}{a:Nat->Nat}{c:Cfg}{p:Port}(h:tJ g a c p)(hg:∀s,s < 4->g' (a s)=g (a s)):tJ g' a c p:=by
 obtain⟨h0,h1,h2,h3⟩:=h;exact⟨by rw [hg 0 (by omega),h0],by rw [hg 1 (by omega),h1],by rw [hg 2 (by omega),h2],by rw [hg 3 (by omega),h3]⟩
theorem tJ.some {g:bg}{a:Nat->Nat}{c:Cfg}{p:Port}(h:tJ g a c p){s:Nat}(hs:s < 4):∃l r,g (a s)=some (lQ l r):=by
 obtain⟨h0,h1,h2,h3⟩:=h
 match s,hs with
 | 0,_=> exact⟨_,_,h0⟩
 | 1,_=> exact⟨_,_,h1⟩
 | 2,_=> exact⟨_,_,h2⟩
 | 3,_=> exact⟨_,_,h3⟩
theorem Nq(H:ah)(hb:H.base<=H.next)(c:Cfg)(h:c.ok=true):∃H' f P g',cl 13 [.agg c.av] H=some (.ref f 0 0,H')/\Made H H' g'/\gY g' f P c (.new c)/\Qk P c.aP.toNat:=by
 have Bd:=uN h;let H1:=H.new (.blk 0 24 c.av);let H2:=H1.new (.blk 0 84 [zN]);let f:=H.next+1
 have M0:Made H1 H2 (upd oW f (abz (λ_ _=> 0) 0)):=lJ rfl rfl λi c x hc hx=> by
  match i with
  | 0=> right;cases hc;cases hx;exact⟨rfl,4,rfl⟩
  | i+1=> cases hc
 have l0:c.av[0]?=some (I c.aP):=rfl;have l5:c.av[5]?=some (I c.out):=rfl;have l6:c.av[6]?=some (I c.inn):=rfl;have key:∀k i,i+k=c.aP.toNat->∀Hi gi P,Made H1 Hi gi->gi f=some (abz P i)->(∀j,j < i->tJ gi (P j) c .zero)->Qk P i->
   ∃H' g' P',Jd cl [.ref H.next 0 0,.ref f 0 0,I c.aP,I i] Hi=some (.ref f 0 0,H')/\Made H1 H' g'/\g' f=some (abz P' c.aP.toNat)/\(∀j,j < c.aP.toNat->tJ g' (P' j) c .zero)/\Qk P' c.aP.toNat:=by
  intro k
  induction k with
  | zero=>
   intro i hi Hi gi P M hf hp hj;have h1:¬(i:Int) < c.aP:=by omega
   have hi':c.aP.toNat=i:=by omega
   rw [XB];refine⟨Hi,gi,P,?_,M,by rw [hi'];exact hf,by rw [hi'];exact hp,by rw [hi'];exact hj⟩;simp only [xq_,h1]
  | succ k ih=>
   intro i hi Hi gi P M hf hp hj;have h1:(i:Int) < c.aP:=by omega
   have h6:(i:Int)+1=((i+1:Nat):Int):=by omega
   have h7:=wrap_i64 (a:=((i+1:Nat):Int)) (by have:=Bd.aP;omega) (by have:=Bd.aP;omega);have lt1:H.next < H1.next:=by simp only [H1,dL];omega
   have bx:∀H':ah,(∀r,r < H1.next->H'.get r=H1.get r)->H'.get H.next=.blk 0 24 c.av:=λH' hs=> by rw [hs _ lt1];exact aJ rfl
   have ld5:∀H':ah,(∀r,r < H1.next->H'.get r=H1.get r)->ld (.ref H.next 0 5) H'=some (I c.out,H'):=λH' hs=> by rw [dR (bx H' hs),l5];rfl
   have ld6:∀H':ah,(∀r,r < H1.next->H'.get r=H1.get r)->ld (.ref H.next 0 6) H'=some (I c.inn,H'):=λH' hs=> by rw [dR (bx H' hs),l6];rfl
   obtain⟨x,hx,cx⟩:=M.good.seq hf (i:=0) rfl;obtain⟨Ha',q1,a1,Ma⟩:=YF Hi.guard c.out (by have:=Bd.out;omega);obtain⟨Ha,a1,Ma⟩:=drawn a1 Ma;have Na:=M.add Ma;obtain⟨Hb',q2,a2,Mb⟩:=SQ Ha.guard c.inn (by have:=Bd.inn;omega);obtain⟨Hb,a2,Mb⟩:=drawn a2 Mb;have Nb:=Na.add Mb;obtain⟨Hc',q3,a3,Mc⟩:=YF Hb.guard c.out (by have:=Bd.out;omega);obtain⟨Hc,a3,Mc⟩:=drawn a3 Mc;have Nc:=Nb.add Mc;obtain⟨Hd',q4,a4,Md⟩:=SQ Hc.guard 1 (by omega);obtain⟨Hd,a4,Md⟩:=drawn a4 Md;have Nd:=Nc.add Md;have o1:=Ma.lt aN;have o2:=Mb.lt aN;have o3:=Mc.lt aN;have o4:=Md.lt aN;have hfl:=M.good.lt hf;have cd:Cur H1.next Hd f 0 x 4 _:=(((cx.ext Ma.next Ma.same).ext Mb.next Mb.same).ext Mc.next Mc.same).ext Md.next Md.same
   let a:=aog q1 q2 q3 q4;let o:fD:=.blk 0 92 (mG a);let g4:=upd (upd (upd (upd gi q1 (lQ [] c.out)) q2 (lQ [] c.inn)) q3 (lQ [] c.out)) q4 (lQ [] 1);have low:∀q,q < Hi.next->g4 q=gi q:=λq hq=> by
    simp only [g4];rw [aY (by omega),aY (by omega),aY (by omega),aY (by omega)]
   have hf4:g4 f=some (abz P i):=by rw [low f hfl,hf]
   obtain⟨x',He,Hf,t1,t2,t3,t4⟩:=(Nd.good.new o).append (e:=92) (by_:=32) (by rw [iC,Nd.base];simp only [H1,iC,dL];omega) hf4 (i:=0) rfl (by decide) (qg P i) (cd.new o) (jI (ex:=true) (n:=1) (m:=4) (l:=mG a) rfl) rfl (by have:=Bd.aP;unfold most;omega) (by have:=Bd.aP;unfold most;omega);let P':Nat->Nat->Nat:=λj=> if j=i then a else P j
   have hP:∀j,j < i->P' j=P j:=λj hj=> by simp only [P'];rw [if_neg (by omega)]
   have hPi:P' i=a:=by simp only [P',if_true]
   have Mf:Made H1 Hf (upd g4 f (abz P' (i+1))):=by
    refine((Nd.new o).step t3 t4).as ?_
    congr 1
    simp only [abz,zcD];rw [zch,zbE,G8 i hP,zaQ,List.flatMap_nil,zbb,hPi]
   have hq:∀s,s < 4->Hi.next<=a s:=λs hs=> by
    match s,hs with
    | 0,_=> exact o1.1
    | 1,_=> exact zas Ma.next o2.1
    | 2,_=> exact zas Ma.next (zas Mb.next o3.1)
    | 3,_=> exact zas Ma.next (zas Mb.next (zas Mc.next o4.1))
   have hpl:∀j,j < i->∀s,s < 4->P j s < Hi.next:=λj hji s hs=> by
    obtain⟨l,r,hg⟩:=(hp j hji).some hs;exact M.good.lt hg
   obtain⟨H',g',P'',r1,r2⟩:=ih (i+1) (by omega) Hf _ P' Mf aN (λj hj1=> by
    by_cases hji:j=i
    ·subst hji;rw [hPi];have h4:∀s,s < 4->a s≠f:=λs hs=> by have:=hq s hs;omega
     refine tJ.ext (g:=g4) ⟨?_,?_,?_,?_⟩ λs hs=> aY (h4 s hs)
     ·show g4 q1=_;simp only [g4];rw [aY (by omega),aY (by omega),aY (by omega),aN];rfl
     ·show g4 q2=_;simp only [g4];rw [aY (by omega),aY (by omega),aN];rfl
     ·show g4 q3=_;simp only [g4];rw [aY (by omega),aN];rfl
     ·show g4 q4=_;simp only [g4];rw [aN];rfl
    ·rw [hP j (by omega)];refine(hp j (by omega)).ext λs hs=> ?_;have hlt:=hpl j (by omega) s hs;obtain⟨l,r,hg⟩:=(hp j (by omega)).some hs;have:P j s≠f:=λe=> by rw [e,hf] at hg;cases hg
     rw [aY this,low _ hlt]) (λj k s t hj1 hk1 hs ht e=> by
    by_cases hji:j=i
    ·by_cases hki:k=i
     ·subst hji;subst hki;refine⟨rfl,?_⟩;rw [hPi] at e
      match s,hs,t,ht with
      | 0,_,0,_ | 1,_,1,_ | 2,_,2,_ | 3,_,3,_=> rfl
      | 0,_,1,_ | 0,_,2,_ | 0,_,3,_ | 1,_,0,_ | 1,_,2,_ | 1,_,3,_ | 2,_,0,_ | 2,_,1,_ | 2,_,3,_ | 3,_,0,_ | 3,_,1,_ | 3,_,2,_=> simp only [a,aog] at e;omega
     ·subst hji;rw [hPi,hP k (by omega)] at e;have:=hq s hs;have:=hpl k (by omega) t ht;omega
    ·by_cases hki:k=i
     ·subst hki;rw [hPi,hP j (by omega)] at e;have:=hq t ht;have:=hpl j (by omega) s hs;omega
     ·rw [hP j (by omega),hP k (by omega)] at e;exact hj j k s t (by omega) (by omega) hs ht e)
   refine⟨H',g',P'',?_,r2⟩;rw [XB];have s1:=ld5 Hi M.same;have s2:=ld6 Ha Na.same;have s3:=ld5 Hb Nb.same;have ep:∀r r',bd 90 [(0,.ref r 0 0),(1,.ref r' 0 0)]=some (.agg [.ref r 0 0,.ref r' 0 0]):=λr r'=> by
    simp only [xq_,ahQ,jo,fJ,ahP];rfl
   have eq:∀r r' r2 r3,bd 92 [(0,.agg [.ref r 0 0,.ref r' 0 0]),(1,.agg [.ref r2 0 0,.ref r3 0 0])]=some (.agg [.ref r 0 0,.ref r' 0 0,.ref r2 0 0,.ref r3 0 0]):=λr r' r2 r3=> by
    simp only [xq_,amJ,jo,fJ,ahR];rfl
   have eb:=gZ (e:=92) (m:=4) (z:=[zP,zP,zP,zP]) (v:=.agg [.ref q1 0 0,.ref q2 0 0,.ref q3 0 0,.ref q4 0 0]) (H:=Hd) rfl rfl rfl;simp only [eH] at eb;simp only [o,a,mG,aog,f] at t1 t2 r1 hx;simp only [Nat.reduceLeDiff,xq_,hq_,h1,f,hx,s1,s2,s3,a1,a2,a3,a4,ep,eq,amE,zbm,eb,t1,t2,bI,h6,h7,r1]
 obtain⟨H',g',P,r1,r2,r3,r4,r5⟩:=key c.aP.toNat 0 (by omega) H2 _ _ M0 aN (λj hj=> by omega) (λi j s t hi=> by omega);refine⟨H',f,P,g',aX rfl rfl (amV _ _ _ (r:=(_,H')) ?_),r2.wS,⟨?_,?_,rfl,rfl⟩,r5⟩
 ·have e0:bd 84 []=some (.agg [zN]):=by
   simp only [xq_,amI,jo,fJ]
  have a0:([zN]:List AV).all AV.aU=true:=rfl;simp only [Nat.reduceLT,xq_,hq_,aiu,aC (eu c),e0,aC a0,l0];exact r1
 ·rw [r3];simp only [Fab.new,za6]
 ·intro i p hp;simp only [Fab.new] at hp;rw [zcw] at hp;split at hp
  ·cases hp;exact r4 i (by omega)
  ·cases hp
structure Adr where
 jc:Nat
 fab:Nat
 trace:Nat
 N:Nat->Nat->Nat
 P:Nat->Nat->Nat
def yT(A:Adr)(c:Cfg):List AV:=[.ref A.fab 0 0,.ref A.trace 0 0]++c.av
def nT(N:Nat->Nat->Nat)(n:Nat):List AV:=(List.range n).map λi=> .ref (N i 0) 0 0
def nI(A:Adr)(c:Cfg)(n:Nat):List Cell:=(yT A c).map .av++[.seq 1 (nT A.N n)]
def ahd(N:Nat->Nat->Nat)(n:Nat):Prop:=∀i j s t,i < n->j < n->s < 6->t < 6->N i s=N j t->i=j/\s=t
structure fZ(g:bg)(A:Adr)(m:dG):Prop where
 jc:g A.jc=some (nI A m.c m.aP.length)
 trace:g A.trace=some (kH m.trace)
 fab:gY g A.fab A.P m.c m.fab
 bn:∀(i:Nat) n,m.aP[i]?=some n->nH g (A.N i) m.c i n
 UY:Qk A.P m.fab.l.length
 aoh:ahd A.N m.aP.length
 tf:A.trace≠A.fab
theorem nH.some {g:bg}{a:Nat->Nat}{c:Cfg}{me:Int}{n:Node}(h:nH g a c me n){s:Nat}(hs:s < 6):∃l,g (a s)=some l:=by
 obtain⟨h0,h1,h2,h3,h4,h5⟩:=h
 match s,hs with
 | 0,_=> exact⟨_,h0⟩
 | 1,_=> exact⟨_,h1⟩
 | 2,_=> exact⟨_,h2⟩
 | 3,_=> exact⟨_,h3⟩
 | 4,_=> exact⟨_,h4⟩
 | 5,_=> exact⟨_,h5⟩
theorem nH.ext {g g':bg}{a:Nat->Nat}{c:Cfg}{me:Int}{n:Node}(h:nH g a c me n)(hg:∀s,s < 6->g' (a s)=g (a s)):nH g' a c me n:=by
 obtain⟨h0,h1,h2,h3,h4,h5⟩:=h;exact⟨by rw [hg 0 (by omega),h0],by rw [hg 1 (by omega),h1],by rw [hg 2 (by omega),h2],by rw [hg 3 (by omega),h3],by rw [hg 4 (by omega),h4],by rw [hg 5 (by omega),h5]⟩
theorem nH.inj {g:bg}{a:Nat->Nat}{c:Cfg}{me:Int}{n:Node}(h:nH g a c me n){s t:Nat}(hs:s < 6)(ht:t < 6)(e:a s=a t):s=t:=by
 obtain⟨h0,h1,h2,h3,h4,h5⟩:=h;have hh:(g (a s)).map List.length=(g (a t)).map List.length:=by rw [e]
 match s,hs,t,ht with
 | 0,_,0,_ | 1,_,1,_ | 2,_,2,_ | 3,_,3,_ | 4,_,4,_ | 5,_,5,_=> rfl
 | 0,_,1,_ | 0,_,2,_ | 0,_,3,_ | 0,_,4,_ | 0,_,5,_ | 1,_,0,_ | 1,_,2,_ | 1,_,3,_ | 1,_,4,_ | 1,_,5,_ | 2,_,0,_ | 2,_,1,_ | 2,_,3,_ | 2,_,4,_ | 2,_,5,_ | 3,_,0,_ | 3,_,1,_ | 3,_,2,_ | 3,_,4,_ | 3,_,5,_ | 4,_,0,_ | 4,_,1,_ | 4,_,2,_ | 4,_,3,_ | 4,_,5,_ | 5,_,0,_ | 5,_,1,_ | 5,_,2,_ | 5,_,3,_ | 5,_,4,_=>
  simp [h0,h1,h2,h3,h4,h5,uP,FC,Cfg.av,dF.av,bJ,oP,Ae,Bo,gU] at hh
theorem EI {N N':Nat->Nat->Nat}{n:Nat}(h:∀i,i < n->N' i=N i):nT N' (n+1)=nT N n++[.ref (N' n 0) 0 0]:=by
 unfold nT;rw [zch,zbr]
 congr 1
 refine zbk λi hi=> ?_;rw [h i (zaY.1 hi)]
theorem yU {c:Cfg}{ps:List (List Opn)}(h:c.mF ps=true):(ps.length:Int)=c.aP/\∀l∈ps,l.length<=24:=by
 simp only [Cfg.mF,zaj,decide_eq_true_eq,zaZ] at h;exact⟨h.2,λl hl=> (h.1 l hl).1⟩
theorem UZ(H:ah)(hb:H.base<=H.next)(c:Cfg)(h:c.ok=true){x:AV}{ps:List (List Opn)}(hx:Bv H x ps)(hp:c.mF ps=true):∃H' A g',cl 4 [.agg c.av,x] H=some (.tup [.ref A.jc 0 0,I 0],H')/\Made H H' g'/\fZ g' A (.new c ps):=by
 have Bd:=uN h;obtain⟨hp1,hp2⟩:=yU hp;have hn:=Bd.aP;let H1:=H.new (.blk 0 24 c.av);have lt1:H.next < H1.next:=by simp only [H1,dL];omega
 have g1:H1.get H.next=.blk 0 24 c.av:=aJ rfl
 have b1:=iH g1;have e1:=abv H1 c h;have e2:=SX H1 c h (hx.fV (H':=H1) (by omega) λr hr=> aS hr) (by omega) λl hl=> by have:=hp2 l hl;omega
 rw [hp] at e2;have e3:=jy H1 c.init (by have:=Bd.init;have:=Bd.iF;omega);obtain⟨H2',f,P,gf,e4,M1,F1,J1⟩:=Nq H1.guard (zac _) c h;obtain⟨H2,e4,M1⟩:=drawn e4 M1;obtain⟨H3',t,e5,M2⟩:=SS H2.guard;obtain⟨H3,e5,M2⟩:=drawn e5 M2;let A0:Adr:=⟨H3.next,f,t,λ_ _=> 0,P⟩
 have bx:∀H':ah,(∀r,r < H1.next->H'.get r=H1.get r)->H'.get H.next=.blk 0 24 c.av:=λH' hs=> by rw [hs _ lt1,g1]
 have M12:=M1.add M2;have b3:=iH (bx H3 M12.same);have b2:=iH (bx H2 M1.same);let xs:=yT A0 c++[zN]
 have hall:xs.all AV.aU=true:=by simp only [xs,yT,zbF,eu];rfl
 have M3:Made H3 (H3.new (.blk 0 50 xs)) (upd oW H3.next (nI A0 c 0)):=by
  refine lJ hall (by simp [xs,nI]) λi cc y hc hy=> ?_;simp only [nI] at hc;by_cases hi:i < (yT A0 c).length
  ·left;rw [zaP (by rw [zax];exact hi),zaD] at hc;rw [zaP hi] at hy;rw [hy] at hc;exact(zaX hc).symm
  ·right;have hlen:(yT A0 c).length=10:=rfl;have:i=10:=by
    have:=(zak.1 hy).1;simp only [xs,zaq,zah,zam] at this;omega
   subst this;cases hc;cases hy;exact⟨rfl,1,rfl⟩
 have M0:=M12.add M3;let g0:=upd (upd gf t (kH [])) H3.next (nI A0 c 0)
 let K:=H3.next
 have key:∀k i,i+k=ps.length->∀Hi gi N,Made H1 Hi gi->gi K=some (nI { A0 with N:=N } c i)->(∀q,q < K->gi q=g0 q)->(∀(j:Nat) l,j < i->ps[j]?=some l->nH gi (N j) c j (.new c j l))->ahd N i->
   ∃H' g' N',MG cl [.ref H.next 0 0,.ref K 0 0,x,I ps.length,I i] Hi=some (.tup [.ref K 0 0,I 0],H')/\Made H1 H' g'/\g' K=some (nI { A0 with N:=N' } c ps.length)/\(∀q,q < K->g' q=g0 q)/\(∀(j:Nat) l,j < ps.length->ps[j]?=some l->nH g' (N' j) c j (.new c j l))/\ahd N' ps.length:=by
  intro k
  induction k with
  | zero=>
   intro i hi Hi gi N M hm hl hnd hj;have h1:¬(i:Int) < ps.length:=by omega
   have hi':ps.length=i:=by omega
   rw [RP];refine⟨Hi,gi,N,?_,M,by rw [hi'];exact hm,hl,by rw [hi'];exact hnd,by rw [hi'];exact hj⟩;simp only [xq_,h1]
  | succ k ih=>
   intro i hi Hi gi N M hm hlow hnd hj;have h1:(i:Int) < ps.length:=by omega
   have h6:(i:Int)+1=((i+1:Nat):Int):=by omega
   have h7:=wrap_i64 (a:=((i+1:Nat):Int)) (by omega) (by omega);have hxi:=hx.fV (H':=Hi) (zas (Nat.le_of_lt lt1) M.next) λr hr=> by rw [M.same r (by omega)];exact aS hr
   obtain⟨cells,x1,x2⟩:=hxi;have hcl:cells.length=ps.length:=by have:=x1.1;omega
   have s1:=x1.ix (k:=.i64) (i:=(i:Int)) (by omega) h1;rw [zao] at s1;have s2:=x1.ld (i:=i) (by omega);obtain⟨v,hv⟩:∃v,cells[i]?=some v:=⟨_,zab (by omega)⟩
   obtain⟨l,hl⟩:∃l,ps[i]?=some l:=⟨_,zab (by omega)⟩
   rw [hv] at s2;obtain⟨v1,v2⟩:=x2 i v l hv hl;have s4:=iH (bx Hi M.same);obtain⟨y,hy,cy⟩:=M.good.seq hm (i:=10) (m:=1) (l:=nT N i) rfl;obtain⟨Ha',a,ga,a1,Ma,Ia⟩:=YK Hi.guard c h i l (by have:=hp2 l (zaw hl);omega) v1.guard v2;obtain⟨Ha,a1,Ma⟩:=drawn a1 Ma;have Na:=M.trans Ma;let ga':=cup Hi.next gi ga
   have hK:=M.good.lt hm;have aga:∀q,q < Hi.next->ga' q=gi q:=λq hq=> by simp only [ga',cup,hq,if_true]
   have hma:ga' K=some (nI { A0 with N:=N } c i):=by rw [aga K hK,hm]
   let o:fD:=.blk 0 51 [.ref (a 0) 0 0];have hnl:(nT N i).length=i*1:=by simp [nT]
   obtain⟨y',He,Hf,t1,t2,t3,t4⟩:=(Na.good.new o).append (e:=51) (by_:=8) (by rw [iC,Na.base];simp only [H1,iC,dL];omega) hma (i:=10) rfl (by decide) hnl ((cy.ext Ma.next Ma.same).new o) (jI (ex:=true) (n:=1) (m:=1) (l:=[.ref (a 0) 0 0]) rfl) rfl (by unfold most;omega) (by unfold most;omega);let N':Nat->Nat->Nat:=λj=> if j=i then a else N j
   have hN:∀j,j < i->N' j=N j:=λj hj=> by simp only [N'];rw [if_neg (by omega)]
   have hNi:N' i=a:=by simp only [N',if_true]
   have Mf:Made H1 Hf (upd ga' K (nI { A0 with N:=N' } c (i+1))):=by
    refine((Na.new o).step t3 t4).as ?_
    congr 1
    simp only [nI];rw [EI hN,hNi];rfl
   have hal:∀s,s < 6->Hi.next<=a s/\ga' (a s)=ga (a s):=λs hs=> by
    obtain⟨l,hg⟩:=Ia.some hs;have:=(Ma.lt hg).1;exact⟨this,by simp only [ga',cup];rw [if_neg (by omega)]⟩
   have hNl:∀j,j < i->∀s,s < 6->N j s < Hi.next:=λj hji s hs=> by
    obtain⟨lj,hlj⟩:∃l,ps[j]?=some l:=⟨_,zab (by omega)⟩
    obtain⟨l,hg⟩:=(hnd j lj hji hlj).some hs;exact M.good.lt hg
   obtain⟨H',g',N'',r1,r2⟩:=ih (i+1) (by omega) Hf _ N' Mf aN (λq hq=> by
    rw [aY (by omega),aga q (by omega),hlow q hq]) (λj lj hj1 hlj=> by
    by_cases hji:j=i
    ·subst hji;rw [hl] at hlj;cases hlj;rw [hNi];exact Ia.ext λs hs=> by
      obtain⟨h1,h2⟩:=hal s hs;rw [aY (by omega),h2]
    ·rw [hN j (by omega)];refine(hnd j lj (by omega) hlj).ext λs hs=> ?_;have hlt:=hNl j (by omega) s hs;have hne:N j s≠K:=λe=> by
      have I:=hnd j lj (by omega) hlj;obtain⟨l',hg⟩:=I.some hs;obtain⟨h0,h1,h2,h3,h4,h5⟩:=I;have hh:(gi (N j s)).map (λl=> l[10]?)=some (some (.seq 1 (nT N i))):=by rw [e,hm];rfl
      match s,hs with
      | 0,_=> rw [h0] at hh;simp [uP,FC,Cfg.av,dF.av] at hh
      | 1,_=> rw [h1] at hh;simp [bJ] at hh
      | 2,_=> rw [h2] at hh;simp [oP] at hh
      | 3,_=> rw [h3] at hh;simp [Ae,Cfg.av] at hh
      | 4,_=> rw [h4] at hh;simp [Bo,Cfg.av] at hh
      | 5,_=> rw [h5] at hh;simp [gU] at hh
     rw [aY hne,aga _ hlt]) (λj k s t hj1 hk1 hs ht e=> by
    by_cases hji:j=i
    ·by_cases hki:k=i
     ·subst hji;subst hki;rw [hNi] at e;exact⟨rfl,Ia.inj hs ht e⟩
     ·subst hji;rw [hNi,hN k (by omega)] at e;have:=(hal s hs).1;have:=hNl k (by omega) t ht;omega
    ·by_cases hki:k=i
     ·subst hki;rw [hNi,hN j (by omega)] at e;have:=(hal t ht).1;have:=hNl j (by omega) s hs;omega
     ·rw [hN j (by omega),hN k (by omega)] at e;exact hj j k s t (by omega) (by omega) hs ht e)
   refine⟨H',g',N'',?_,r2⟩;rw [RP];have eb:=gZ (e:=51) (m:=1) (z:=[zP]) (v:=.ref (a 0) 0 0) (H:=Ha) rfl rfl rfl;have ec:(AV.ref (a 0) 0 0).cells=[.ref (a 0) 0 0]:=rfl;rw [ec] at eb;simp only [o] at t1 t2;simp only [Nat.reduceLeDiff,xq_,hq_,h1,s1,s2,s4,hy,a1,ahF,zbm,eb,t1,t2,bI,h6,h7,r1]
 have hfl:f < H2.next:=M1.good.lt F1.1
 have ht:=M2.lt aN;obtain⟨H',g',N,r1,r2,r3,r4,r5,r6⟩:=key ps.length 0 (by omega) _ g0 (λ_ _=> 0) M0 aN (λq hq=> rfl) (λj l hj=> by omega) (λi j s t hi=> by omega);have hg0:∀q,q < H2.next->g0 q=gf q:=λq hq=> by simp only [g0];rw [aY (by omega),aY (by omega)]
 refine⟨H',{ A0 with N:=N },g',aX rfl rfl (aoU _ _ _ _ (r:=(_,H')) ?_),r2.wS,?_⟩
 ·have l7:c.av[7]?=some (dat c.init):=rfl;have b0:nV Tryz.prog .neq 29 (I 0) (I 0)=some (B false):=by kernel_rfl
  have st7:st 1 (.ref H.next 0 7) (dat c.init) H1=some (aO,H1):=by
   simp only [H1];rw [lS rfl];simp only [Nat.reduceAdd,aG,xq_,hq_,Cfg.av,hb]
  have em:bd 50 [(0,.ref f 0 0),(1,.ref t 0 0),(2,.agg c.av)]=some (.agg xs):=by
   simp only [xq_,ahL,jo,fJ,afb,Cfg.av,eH];rfl
  have el:=(hx.fV (H':=H3.new (.blk 0 50 xs)) (by have:=M12.next;simp only [dL];omega) λr hr=> by rw [M0.same r (by omega)];exact aS hr)
  obtain⟨cells,x1,_⟩:=el;have el:=x1.lnS;simp only [H1] at b1 e1 e2 e3 e4 e5 st7;simp only [Nat.reduceLT,xq_,hq_,amS,aC (eu c),b1,e1,b0,e2,e3,l7,st7,e4,e5,b3,em,aC hall,el];exact r1
 ·refine⟨?_,?_,⟨?_,?_,rfl,rfl⟩,?_,?_,?_,?_⟩
  ·rw [r3];simp only [dG.new,zcg]
  ·rw [r4 t ht.2];simp only [g0];rw [aY (by omega),aN];rfl
  ·show g' f=_;rw [r4 f (by have:=M2.next;omega),hg0 f hfl,F1.1];rfl
  ·intro i p hp;have I:=F1.2.1 i p hp;exact I.ext λs hs=> by
    obtain⟨l,r,hg⟩:=I.some hs;have:=M1.good.lt hg;rw [r4 _ (by have:=M2.next;omega),hg0 _ this]
  ·intro i n hi;simp only [dG.new,za1,zbM] at hi;obtain⟨l,hl,rfl⟩:=hi;exact r5 i l (zak.1 hl).1 hl
  ·simp only [dG.new,Fab.new,za6];exact J1
  ·simp only [dG.new,zcg];exact r6
  ·show t≠f;omega
section
variable {b:Nat}{H:ah}{g:bg}{q:Nat}
theorem JE(G:Good b H g){p:Proc}(h:g q=some (oP p))(h1:p.ops.length < 1000)(h2:p.dP.length < 1000):cl 19 [.ref q 0 0] H=some (I p.left,H):=by
 refine aX rfl rfl (am2 _ _ _ ?_);have e1:=G.load h (i:=0) rfl;have e2:=(Gt fH H p.ops).lnS;obtain⟨x,hx,c⟩:=G.seq h (i:=1) rfl;have e3:=(c.is (n:=p.dP.length) (by decide) (by simp)).lnS;simp only [xq_,aix,e1,e2,hx,e3,ku,Proc.left];rw [wrap_i64 (by omega) (by omega)]
theorem YL(G:Good b H g){p:Proc}(h:g q=some (oP p)):cl 95 [.ref q 0 0] H=some (B p.gK,H):=by
 refine aX rfl rfl (an9 _ _ _ ?_);have e1:=G.load h (i:=2) rfl;simp only [xq_,ajz,e1]
theorem agb(G:Good b H g){l:List Pkt}{room:Int}(h:g q=some (lQ l room)):cl 81 [.ref q 0 0] H=some (I l.length,H):=by
 refine aX rfl rfl (anR _ _ _ ?_);obtain⟨x,hx,c⟩:=G.seq h (i:=0) rfl;have e2:=(c.is (by decide) (dh bH l)).lnS;simp only [xq_,ajo,hx,e2]
end
section
variable {b:Nat}{H:ah}{g:bg}{q f:Nat}{P:Nat->Nat->Nat}{c:Cfg}{fab:Fab}
theorem Cur.elemAt {i m n:Nat}{x:AV}{l:List AV}(cu:Cur b H q i x m l)(hm:0 < m)(hl:l.length=n*m){j:Nat}(hj:j < n):
  ∃r gg o,(∀k:IntKind,ix m x (.s (.int k j)) H=some (.ref r gg o,H))/\(∀k,k < m->ld (.ref r gg (o+k)) H=(l[j*m+k]?).map λv=> (v,H))/\lda m (.ref r gg o) H=some (.agg ((l.drop (j*m)).take m),H):=by
 have hs:=cu.is hm hl;have hjm:(j+1)*m<=n*m:=zaz _ (by omega);rw [zbx,zbm] at hjm;rcases cu.length hm hl with⟨_,h0⟩ | ⟨r,gg,off,cap,ex,ty,all,rfl,k1,k2,k3,k4,k5,k6,k7,k8⟩
 ·omega
 have hcm:n*m<=cap*m:=zaz _ k4;refine⟨r,gg,off+j*m,λk=> ?_,λk hk=> ?_,?_⟩
 ·have:=hs.ix (k:=k) (i:=(j:Int)) (by omega) (by omega);rw [zao] at this;exact this
 ·rw [dR k5,k8,zay,if_pos (by omega),zaA,zcy]
 ·rw [fO k5 (by omega),k8]
  congr 3
  rw [zcr,zbC,zb9,zbq (by omega)]
theorem YM {α:Type}{enc:α->List AV}{m:Nat}(he:∀a,(enc a).length=m)(l:List α)(i:Nat)(a:α)(hi:l[i]?=some a){k:Nat}(hk:k < m):(l.flatMap enc)[i*m+k]?=(enc a)[k]?:=by
 have:=sG he l i a hi;rw [<-this,zay,if_pos hk,zaA]
theorem CZ(G:Good b H g)(F:gY g f P c fab)(hn:fab.l.length < 1000)(i:Int):cl 138 [.ref f 0 0,I i] H=some (B (fab.is i),H):=by
 refine aX rfl rfl (akd _ _ _ _ ?_);obtain⟨x,hx,cu⟩:=G.seq F.1 (i:=0) rfl;have e2:=(cu.is (by decide) (qg P _)).lnS;by_cases h0:0<=i
 ·simp only [xq_,Yc,h0,hx,e2,Fab.is,zaI]
 ·simp only [xq_,Yc,h0,Fab.is,zaL]
theorem gY.port(F:gY g f P c fab){i:Nat}(hi:i < fab.l.length):tJ g (P i) c (fab.port i):=by
 have:=F.2.1 i (fab.l[i]) (zab hi);unfold Fab.port;rw [zao,zaJ,zab hi];exact this
end
section
variable {b:Nat}{H:ah}{g:bg}{q f:Nat}{P:Nat->Nat->Nat}{c:Cfg}{fab:Fab}
theorem agc {e:TypeId}{H:ah}{a b c d:Nat}:bsl e 2 [zP,zP] 2 [(0,.agg [.ref a 0 0,.ref b 0 0]),(1,.agg [.ref c 0 0,.ref d 0 0])] H=some (.sl H.next 0 0 2 2 2 true,H.new (.blk 0 e [.ref a 0 0,.ref b 0 0,.ref c 0 0,.ref d 0 0])):=rfl
def jd(P:Nat->Nat->Nat)(n:Nat):List AV:=(List.range n).flatMap λi=> mG (P i)
theorem gY.lt(G:Good b H g)(F:gY g f P c fab){i s:Nat}(hi:i < fab.l.length)(hs:s < 4):P i s < H.next:=by
 obtain⟨l,r,h⟩:=(F.port hi).some hs;exact G.lt h
theorem abA(G:Good b H g)(F:gY g f P c fab)(hn:fab.l.length < 1000)(h0:fab.l.length≠0):
  cl 80 [.ref f 0 0] H=some (.vs (2*fab.l.length) 2 (jd P fab.l.length),H):=by
 obtain⟨x,hx,cu⟩:=G.guard.seq F.1 (i:=0) rfl;have e2:=(cu.is (by decide) (qg P _)).lnS;have hfr:∀d,∀y∈jd P fab.l.length,∀Hz,bF Hz H.next (d+1) y=some y:=λd y hy Hz=> by
  obtain⟨i,hi,hy⟩:=zbd.1 hy;have hi:=zaY.1 hi;simp only [mG,zar,zaH,or_false] at hy;rcases hy with rfl | rfl | rfl | rfl <;> · rw [bF];exact if_pos (F.lt G hi (by omega))
 have key:∀k i,i+k=fab.l.length->∀Hi t,Own H.next Hi t 2 (jd P i)->Step H.next H.guard Hi->
   ∃v Hz,Jr cl [t,x,I fab.l.length,I i] Hi=some (v,Hz)/\Own H.next Hz v 2 (jd P fab.l.length):=by
  intro k
  induction k with
  | zero=>
   intro i hi Hi t o s;have h1:¬(i:Int) < fab.l.length:=by omega
   rw [XP];refine⟨t,Hi,?_,by rw [show fab.l.length=i by omega];exact o⟩;simp only [xq_,h1]
  | succ k ih=>
   intro i hi Hi t o s;have h1:(i:Int) < fab.l.length:=by omega
   have h6:(i:Int)+1=((i+1:Nat):Int):=by omega
   have h7:=wrap_i64 (a:=((i+1:Nat):Int)) (by omega) (by omega);obtain⟨r,gg,off,a1,_,a3⟩:=(cu.ext s.next s.low).elemAt (by decide) (qg P _) (j:=i) (by omega);have a1:=a1 .i64;rw [sG (m:=4) (λ_=> rfl) _ i i (zba (by omega))] at a3;let H1:=Hi.new (.blk 0 92 (mG (P i)));have hpl:(jd P i).length=(2*i)*2:=by
    rw [jd,qg];omega
   have sb:Hi.base=H.next:=s.base
   have sn:H.next<=Hi.next:=s.next
   obtain⟨v',Hj,t1,t2,t3⟩:=((o.new (.blk 0 92 (mG (P i)))).new (.blk 0 90 (mG (P i)))).step (e:=90) (by_:=16) (by simp only [dL];omega) (by simp only [iC];omega) (by decide) hpl (jI (ex:=true) (n:=2) (m:=2) (l:=mG (P i)) rfl) rfl (by unfold most;omega) (by unfold most;omega);have hs:jd P (i+1)=jd P i++mG (P i):=by
    simp only [jd];rw [zch,zbE,zaQ,List.flatMap_nil,zbb]
   rw [<-hs] at t2;obtain⟨v,Hz,r1,r2⟩:=ih (i+1) (by omega) Hj v' t2 ((s.trans ((Step.new _ (by omega)).trans (Step.new _ (by simp only [dL];omega)))).trans t3);refine⟨v,Hz,?_,r2⟩;rw [XP];have ca:∀a b c d,(AV.agg [.ref a 0 0,.ref b 0 0,.ref c 0 0,.ref d 0 0]).cells=[.ref a 0 0,.ref b 0 0,.ref c 0 0,.ref d 0 0]:=λ_ _ _ _=> rfl;have hbase:Hi.base<=Hi.next:=by omega
   simp only [mG,dL] at a3 t1;simp only [Nat.reduceAdd,Nat.reduceLeDiff,aG,xq_,hq_,h1,a1,a3,hbase,ahG,Nat.reduceMul,agc,t1,bI,h6,h7,r1]
 obtain⟨v,Hz,r1,r2⟩:=key fab.l.length 0 (by omega) H.guard zN (.inl ⟨rfl,rfl⟩) (Step.refl _ _);refine iG rfl rfl (anQ _ _ _ (r:=(v,Hz)) ?_) ?_
 ·simp only [xq_,ajn,hx,e2];exact r1
 ·have hpl:(jd P fab.l.length).length=(2*fab.l.length)*2:=by
   rw [jd,qg];omega
  have hs:=r2.is (by decide) hpl;obtain⟨c1,c2⟩:=hs.AX;rcases r2 with⟨rfl,e⟩ | ⟨r,gg,off,n',cap,ex,ty,all,rfl,k2,k3,k4,k5,k6,k7,k8⟩
  ·rw [e] at hpl;simp only [zam] at hpl;omega
  ·have hn':n'=2*fab.l.length:=by
    have:=hs.2.2.1;exact this
   subst hn';exact ng k2 c2 (iU _ λy hy=> hfr _ y hy _)
theorem YN {α β:Type}{u v:α->β}:∀(l:List α) (i:Nat),(l.flatMap λp=> [u p,v p])[2*i]?=l[i]?.map u/\(l.flatMap λp=> [u p,v p])[2*i+1]?=l[i]?.map v
 | [],i=> by simp
 | a::l,0=> by simp
 | a::l,i+1=> by
  have:=YN (u:=u) (v:=v) l i;rw [show 2*(i+1)=2*i+1+1 by omega]
  simpa using this
theorem gY.ale(F:gY g f P c fab){j:Nat}(hj:j < 2*fab.l.length):
  ∃l a a',fab.kR[j]?=some l/\((jd P fab.l.length).drop (j*2)).take 2=[.ref a 0 0,.ref a' 0 0]/\g a=some (lQ l c.out):=by
 have hi:j / 2 < fab.l.length:=by omega
 have hp:=F.port hi;have hg:fab.l[j / 2]?=some (fab.port (j / 2:Nat)):=by
  unfold Fab.port;rw [zao,zaJ,zab hi];rfl
 have hfl:=sG (m:=4) (enc:=λi=> mG (P i)) (λ_=> rfl) (List.range fab.l.length) (j / 2) (j / 2) (zba hi);have h2:=YN (u:=Port.rq) (v:=Port.an) fab.l (j / 2);rw [hg] at h2;rcases Nat.mod_two_eq_zero_or_one j with h | h
 ·refine⟨_,P (j / 2) 0,P (j / 2) 1,?_,?_,hp.1⟩
  ·have:=h2.1;rw [show 2*(j / 2)=j by omega] at this;exact this
  ·have e:((jd P fab.l.length).drop (j*2)).take 2=(((jd P fab.l.length).drop (j / 2*4)).take 4).take 2:=by
    rw [zb9,show j / 2*4=j*2 by omega];rfl
   rw [e];exact(congrArg (List.take 2) hfl).trans rfl
 ·refine⟨_,P (j / 2) 2,P (j / 2) 3,?_,?_,hp.2.2.1⟩
  ·have:=h2.2;rw [show 2*(j / 2)+1=j by omega] at this;exact this
  ·have e:((jd P fab.l.length).drop (j*2)).take 2=((((jd P fab.l.length).drop (j / 2*4)).take 4).drop 2).take 2:=by
    rw [zcr,zbC,zb9,show j / 2*4+2=j*2 by omega];rfl
   rw [e];exact(congrArg (λl=> (List.drop 2 l).take 2) hfl).trans rfl
end
section
variable {b:Nat}{H:ah}{g:bg}{q f:Nat}{P:Nat->Nat->Nat}{c:Cfg}{fab:Fab}
theorem sQ:∀l:List Port,(l.flatMap λp=> [p.rq,p.an]).length=2*l.length
 | []=> rfl
 | p::l=> by
  have:=sQ l;simp only [zaQ,zaq,this,zah,zam];omega
end
section
variable {b:Nat}{H:ah}{g:bg}{A:Adr}{m:dG}
structure dG.fine(m:dG):Prop where
 ok:m.c.ok=true
 aP:(m.aP.length:Int)=m.c.aP
 fab:m.fab.l.length=m.aP.length
 ops:∀n∈m.aP,n.dK.ops.length < 1000/\n.dK.dP.length < 1000
 kR:∀l∈m.fab.kR,l.length < 1000
 dO:∀n∈m.aP,n.dO.data.length < 1000000000
 ins:∀p∈m.fab.l,p.rin.length < 1000/\p.ain.length < 1000
theorem EJ(N:Nat->Nat->Nat)(n:Nat):(nT N n).length=n*1:=by simp [nT]
theorem Nr {N:Nat->Nat->Nat}{n i:Nat}(h:i < n):(nT N n)[i]?=some (.ref (N i 0) 0 0):=by
 simp [nT,zba h]
theorem agd(G:Good b H g)(M:fZ g A m)(hm:m.fine):cl 6 [.ref A.jc 0 0] H=some (I m.left,H):=by
 have Bd:=uN hm.ok;refine aX rfl rfl (apm _ _ _ ?_);obtain⟨x,hx,cu⟩:=G.seq M.jc (i:=10) rfl;have e2:=(cu.is (by decide) (EJ _ _)).lnS;have hbd:∀j,j<=m.aP.length->-(j*1000:Int)<=((m.aP.take j).map λn=> n.dK.left).sum/\((m.aP.take j).map λn=> n.dK.left).sum<=j*1000:=by
  intro j
  induction j with
  | zero=> intro _;simp
  | succ j ih=>
   intro hj;have i1:=ih (by omega);have hg:m.aP[j]?=some (m.aP[j]'(by omega)):=zab (by omega);have i2:=hm.ops _ (zaw hg);have i3:-1000<=(m.aP[j]'(by omega)).dK.left/\(m.aP[j]'(by omega)).dK.left<=1000:=by
    unfold Proc.left;omega
   rw [List.take_succ,hg];simp only [zc1,zbr,zaC,zbG,List.sum_append,zcV,List.sum_nil];omega
 have key:∀k j,j+k=m.aP.length->RQ cl [I ((m.aP.take j).map λn=> n.dK.left).sum,x,I m.aP.length,I j] H=some (I m.left,H):=by
  intro k
  induction k with
  | zero=>
   intro j hj;have h1:¬(j:Int) < m.aP.length:=by omega
   rw [adu];have h2:((m.aP.take j).map λn=> n.dK.left).sum=m.left:=by
    rw [zaE (by omega)];rfl
   simp only [xq_,h1,h2]
  | succ k ih=>
   intro j hj;have h1:(j:Int) < m.aP.length:=by omega
   have hn:=hm.aP;have hBn:=Bd.aP;have h6:(j:Int)+1=((j+1:Nat):Int):=by omega
   have h7:=wrap_i64 (a:=((j+1:Nat):Int)) (by omega) (by omega);obtain⟨r,gg,o,a1,a2,_⟩:=cu.elemAt (by decide) (EJ _ _) (j:=j) (by omega);have a1:=a1 .i64;have a2:=a2 0 (by decide);rw [zbi,zbp,zbp,Nr (by omega)] at a2;have hg:m.aP[j]?=some (m.aP[j]'(by omega)):=zab (by omega);have Nj:=M.bn j _ hg;have ho:=hm.ops _ (zaw hg);have e3:=G.load Nj.1 (i:=1) rfl;have e4:=JE G Nj.2.2.1 ho.1 ho.2;have h8:((m.aP.take j).map λn=> n.dK.left).sum+(m.aP[j]'(by omega)).dK.left=((m.aP.take (j+1)).map λn=> n.dK.left).sum:=by
    rw [List.take_succ,hg];simp only [zc1,zbr,zaC,zbG,List.sum_append,zcV,List.sum_nil,Int.add_zero]
   have hb1:=hbd (j+1) (by omega);have h9:=wrap_i64 (a:=((m.aP.take (j+1)).map λn=> n.dK.left).sum) (by omega) (by omega);have r1:=ih (j+1) (by omega);rw [adu];simp only [xq_,h1,a1,a2,e3,e4,bI,h8,h9,h6,h7,r1]
 have r1:=key m.aP.length 0 (by omega);simp only [xq_,aoW,hx,e2];exact r1
end
theorem Bv.zN {H:ah}:Bv H zN []:=⟨[],aH.nil,λi v l h=> by simp at h⟩
theorem agf(c:Cfg):Frz 9 (.agg c.av):=lI λx hx=> by
 simp only [Cfg.av,zar,zaH,or_false] at hx;rcases hx with rfl | rfl | rfl | rfl | rfl | rfl | rfl | rfl <;> first | exact dQ | exact nM
theorem alf {H:ah}{r n j:Nat}{ty:TypeId}{xs:List AV}(hg:H.get r=.blk 0 ty xs)(h:j < n){k:IntKind}:ix 1 (.sl r 0 0 1 n n true) (.s (.int k j)) H=some (.ref r 0 j,H):=by
 have h1:(0:Int)<=j/\(j:Int) < n:=by omega
 simp [ix,jT,ixO,h,bD,hg,al1,fD.gen]
theorem abB {β:Type}{w:Option Nat}{H H':ah}{k:Option β}(h:∀r,w=some r->H'.get r=H.get r):ck w H H' k=k:=if_pos h
theorem vU {H1:ah}{n d m k:Nat}{x:AV}{cells:List AV}(c:Own n H1 x m cells)(hm:0 < m)(hl:cells.length=k*m)(hz:∀y∈cells,bF H1 n d y=some y)(hk:k≠0):bF H1 n (d+1) x=some (.vs k m cells):=by
 rcases c with⟨rfl,rfl⟩ | ⟨r,g,off,n',cap,ex,ty,all,rfl,k2,k3,k4,k5,k6,k7,rfl⟩
 ·simp only [zam] at hl;rcases zcY.1 hl.symm with h | h <;> omega
 ·have hcm:n'*m<=cap*m:=zaz _ k4;rw [zav,zaN,zbq (by omega)] at hl;have:n'=k:=zbA hm hl;subst this;exact ng k2 (cells:=(all.drop off).take (n'*m)) (by simp only [bM,k5];rw [if_pos ⟨trivial,by omega⟩]) (iU _ hz)
theorem YO {c:Cfg}{aB:Int}(h0:0<=aB)(h1:aB < c.aW){i:Nat}(hi:i < c.aQ.toNat):(c.first aB)[i]?=some (c.init.getD ((aB*c.aQ).toNat+i) 0):=by
 unfold Cfg.first
 rw [if_neg (by omega),zaD,zba hi];rfl
theorem Ns {c:Cfg}{aB:Int}(h0:0<=aB)(h1:aB < c.aW):(c.first aB).length=c.aQ.toNat:=by
 unfold Cfg.first
 rw [if_neg (by omega)];simp
theorem S9(a b:Bool):bi .neq 4 (B a) (B b)=some (B (!decide (a=b))):=by
 cases a <;> cases b <;> kernel_rfl
structure jR(H:ah)(x:AV)(l:List Int):Prop where
 is:aH H x 1 l.length (l.map I)
 one:One x
 nil:l=[]->x=zN
theorem oh(H:ah)(l:List Int):jR H (dat l) l:=⟨gI H l,qE,λh=> by rw [h,dat,gB]⟩
theorem jR.guard {H:ah}{x:AV}{l:List Int}(h:jR H x l):jR H.guard x l:=⟨h.is.guard,h.one,h.nil⟩
theorem jR.new {H:ah}{x:AV}{l:List Int}(h:jR H x l)(o:fD):jR (H.new o) x l:=⟨h.is.new o,h.one,h.nil⟩
theorem C9 {p:Pkt}{x:AV}(h:One x):(p.avx x).all AV.aU=true:=by simp [Pkt.avx,gX,jP,h.2]
theorem abC {p:Ent}{x:AV}(h:One x):(p.avx x).all AV.aU=true:=by simp [Ent.avx,gX,jP,h.2]
section
variable {b:Nat}{H H':ah}{g:bg}{q:Nat}{cs:List Cell}
theorem OS.own {τ:Nat->Option Tag}{T:Tag}{x:AV}{m:Nat}{l:List AV}(h:OS b H τ T x m l):Own b H x m l:=by
 rcases h with h | ⟨r,g,off,n,cap,ex,ty,all,k0,_,k2⟩
 ·exact .inl h
 ·exact .inr ⟨r,g,off,n,cap,ex,ty,all,k0,k2⟩
theorem Dc {α:Type}:∀{es:List (Int × α)} {n:Int} {v:α},jM es n=some v->∃j:Nat,es[j]?=some (n,v)/\∀k,k < j->∀e,es[k]?=some e->e.1≠n
 | [],_,_,h=> by cases h
 | (k,w)::es,n,v,h=> by
  simp only [jM] at h;split at h
  ·rename_i e;subst e;cases h;exact⟨0,rfl,λk hk=> by omega⟩
  ·rename_i e;obtain⟨j,h1,h2⟩:=Dc h;refine⟨j+1,h1,λk hk x hx=> ?_⟩;cases k with
   | zero=> cases hx;exact e
   | succ k=> exact h2 k (by omega) x (by simpa using hx)
theorem EK {α:Type}:∀{es:List (Int × α)} {n:Int},jM es n=none↔n∉es.map (·.1)
 | [],_=> by simp [jM]
 | (k,w)::es,n=> by
  simp only [jM];by_cases e:k=n
  ·simp [e]
  ·simp only [e,if_false,zaC,zar,not_or];rw [EK];exact⟨λh=> ⟨λh'=> e h'.symm,h⟩,λh=> h.2⟩
theorem qX:∀(es:List (Int × AV)) (n:Int),oD es n=jM es n
 | [],_=> rfl
 | (k,w)::es,n=> by
  simp only [oD,jM];split
  ·rfl
  ·exact qX es n
theorem Nu {α β:Type}:∀{es:List (Int × α)} {az:List (Int × β)} {n:Int},az.map (·.1)=es.map (·.1)->(jM es n=none↔jM az n=none):=by
 intro es az n h;rw [EK,EK,h]
theorem EL {α β:Type}:∀{es:List (Int × α)} {az:List (Int × β)} {n:Int} {v:α},az.map (·.1)=es.map (·.1)->jM es n=some v->∃(j:Nat) (w:β),jM az n=some w/\es[j]?=some (n,v)/\az[j]?=some (n,w)
 | [],_,_,_,_,h=> by cases h
 | (k,v0)::es,[],_,_,h,_=> by simp at h
 | (k,v0)::es,(k',w0)::az,n,v,h,h'=> by
  simp only [zaC,zbJ] at h;obtain⟨rfl,h⟩:=h;simp only [jM] at h' ⊢;split at h'
  ·rename_i e;subst e;cases h';exact⟨0,w0,by simp,rfl,rfl⟩
  ·rename_i e;obtain⟨j,w,h1,h2,h3⟩:=EL h h';exact⟨j+1,w,by simp only [e,if_false];exact h1,h2,h3⟩
theorem Good.maps(G:Good b H g)(h:g q=some cs){i m:Nat}{k:IntKind}{es:List (Int × List AV)}(hi:cs[i]?=some (.maps k m es)):
  ∃r,ld (.ref q 0 i) H=some (.mp r,H)/\lnM (.mp r) H=some (I es.length,H)/\∀z n,∃x,(jM es n=none->x=.s z)/\(∀l,jM es n=some l->Own b H x m l)/\∀ok,lk k z (.mp r) (.s (.int k n)) ok H=some ((if ok then .tup [x,B (jM es n).isSome] else x),H):=by
 obtain⟨h0,τ,hR⟩:=G;have R:=hR q cs h;obtain⟨ty,xs,h1,h2,h3,h4⟩:=R.blk;have hlt:i < xs.length:=by rw [h2];exact(zak.1 hi).1
 have hx:xs[i]?=some (xs[i]'hlt):=zab hlt;have:=h4 i _ _ hi hx;simp only [CR] at this;obtain⟨aes,⟨r,e,t1,t2,t3,t4⟩,a2,a3⟩:=this;rw [e] at hx;refine⟨r,by rw [dR h1,hx];rfl,?_,λz n=> ?_⟩
 ·simp only [lnM,jT,bD,zai,amD,t4];have:=congrArg List.length a2;simp only [zax] at this;rw [this]
 ·cases hn:jM es n with
  | none=>
   have hf:oD aes n=none:=by rw [qX];exact(Nu a2).1 hn
   refine⟨.s z,λ_=> rfl,λl hl=> (by cases hl),λok=> ?_⟩;simp only [lk,jT,bD,zai,lkO,t4,and_self,if_true,hf];cases ok <;> rfl
  | some l=>
   obtain⟨j,w,b1,b2,b3⟩:=EL a2 hn;refine⟨w,λh=> (by cases h),λl' hl=> (by cases hl;exact(a3 j n l w b2 b3).own),λok=> ?_⟩;simp only [lk,jT,bD,zai,lkO,t4,and_self,if_true,qX,b1];cases ok <;> rfl
end
theorem uQ(H:ah){l:List Int}(hl:l.length < 1000000000){x:AV}(hx:jR H x l):cl 12 [x] H=some (dat l,H):=by
 by_cases h:l=[]
 ·rw [hx.nil h];subst h;have t:=jy H [] (by simp);have z:dat ([]:List Int)=zN:=by simp [dat,gB]
  rw [z] at t ⊢;exact t
 ·have h0:l.length≠0:=λe=> h (zan e);have e2:=qQ (e:=3) (by_:=8) (r:=H.guard.next) (H:=H.guard.new (.blk 0 3 [])) oK (hx.is.guard.new _) (yR l) h0 (by unfold most;omega) (by unfold most;omega);simp only [tZ,dL] at e2;refine iG rfl rfl (aa4 _ _ _ (r:=(.sl (H.next+1) 0 0 1 l.length l.length false,(H.guard.new (.blk 0 3 [])).new (.blk 0 (3+fQ) (l.map I)))) ?_) ?_
  ·have e1:bi .eql 22 x zN=some (B false):=aH.YJ Tryz.underlying22 hx.is h0;simp only [xq_,XA,e1,LD,xE,e2,zbe,zaV]
  ·rw [qW h];refine ng (by omega) (cells:=l.map I) ?_ (iU _ λx hx=> vS l x hx _ _);simp only [bM,iM,dL,tZ,if_true];rw [if_pos (by simp),zaO,zaE (by simp)]
theorem JF(e:Ent){d:Nat}:∀x∈e.av,Frz (d+2) x:=λx hx=> by
 simp only [Ent.av,zar,zaH,or_false] at hx;rcases hx with rfl | rfl | rfl | rfl | rfl | rfl <;> first | exact dQ | exact nM
theorem Ql(e:Row){d:Nat}:∀x∈e.av,Frz (d+2) x:=λx hx=> by
 simp only [Row.av,zar,zaH,or_false] at hx;rcases hx with rfl | rfl | rfl <;> first | exact dQ | exact nM
theorem qh:Ent.zero.av=[zI,zI,zI,zI,zB,zN]:=by simp [Ent.zero,Ent.av,dat,gB]
theorem Tc:Row.zero.av=[zI,zI,zN]:=by simp [Row.zero,Row.av,dat,gB]
theorem Td(H:ah)(e:Ent){x:AV}(hl:e.data.length < 1000000000)(hx:jR H x e.data):cl 146 [.agg (e.avx x)] H=some (.agg e.av,H):=by
 refine aV rfl rfl (akq _ _ _) ?_ (lI (JF e));have e1:=λo o'=> uQ ((H.guard.new o).new o') hl ((hx.guard.new o).new o');simp only [Nat.reduceLT,Nat.reduceAdd,aG,xq_,hq_,ad2,aC,hx.one.2,Ent.avx,e1,Ent.av]
section
variable {b:Nat}{H:ah}{g:bg}{q:Nat}
theorem apJ(H:ah)(e:Ent){r:Nat}{aB:Int}(h:∀H':ah,H'.get=H.get->ld (.ref r 0 0) H'=some (I aB,H'))(hr:r < H.next):cl 178 [.agg e.av,.ref r 0 0] H=some (B (decide (e.aB=aB)),H):=by
 refine aV rfl rfl (akU _ _ _ _) ?_ dQ;have e1:=h H.guard rfl;simp only [Nat.reduceLT,xq_,hq_,aek,aC,Ent.av,e1,hr]
theorem EM(G:Good b H g){c:Cache}(h:g q=some (bJ c))(hl:c.l.length < 1000000)(aB:Int):cl 145 [.ref q 0 0,I aB] H=some (I (wF (c.at_ aB)),H):=by
 refine aV rfl rfl (akp _ _ _ _) ?_ dQ;have G1:=G.guard.new (.blk 0 3 [I aB]);obtain⟨x,hx,c1⟩:=G1.seq h (i:=0) rfl;have hs:=c1.is (by decide) (dh bT c.l);have e2:=Bq (H.guard.new (.blk 0 3 [I aB])) (enc:=Ent.av) bT (f:=.fn (.func 178) [] [.ref H.next 0 0]) hs (by omega) (λe=> decide (e.aB=aB)) (λe _=> by
  rw [ny (by kernel_rfl)];exact apJ _ e (λH' hg=> by rw [dR (g:=0) (ty:=3) (xs:=[I aB]) (by rw [hg];exact aJ rfl)];rfl) (by rw [dL,tZ];omega))
 have eb:fM 3 (I aB) H.guard=some (.ref H.next 0 0,H.guard.new (.blk 0 3 [I aB])):=rfl;simp only [xq_,ad1,eb,hx,e2];rfl
theorem qj {α:Type}{p:α->Bool}:∀l:List α,(l.findIdx? p).bind (λi=> l[i]?)=l.find? p
 | []=> rfl
 | a::l=> by
  rw [zcf,List.find?_cons];cases h:p a with
  | true=> simp
  | false=>
   simp only [zal,if_false];rw [<-qj l];cases l.findIdx? p <;> simp
def iV(o:Option Ent):AV:=.tup [.agg (o.getD .zero).av,B o.isSome]
theorem G9(o:Option Ent):Frz 9 (iV o):=sH λx hx=> by
 simp only [zar,zaH,or_false] at hx;rcases hx with rfl | rfl
 ·exact lI (JF _)
 ·exact dQ
theorem lM(G:Good b H g){c:Cache}(h:g q=some (bJ c))(hl:c.l.length < 1000000)(hd:∀e∈c.l,e.data.length < 1000000000)(aB:Int):cl 98 [.ref q 0 0,I aB] H=some (iV (c.find aB),H):=by
 refine aV rfl rfl (aob _ _ _ _) ?_ (G9 _);have G1:=G.guard.new (.blk 0 117 [zI,zI,zI,zI,zB,zN]);have e1:=EM G1 h hl aB;have hf:c.find aB=(c.at_ aB).bind λi=> c.l[i]?:=(qj c.l).symm;cases ha:c.at_ aB with
 | none=>
  rw [ha] at e1 hf;have hn:wF (none:Option Nat)=-1:=rfl;rw [hn] at e1;simp only [Int.reduceLT,Int.reduceNeg,Nat.reduceAdd,aG,xq_,hq_,afW,e1,WW,jo,dH,hf,iV,qh,zaT,zaB,Option.bind_none]
 | some i=>
  rw [ha] at e1 hf;have hi:i < c.l.length:=zbu.1 ha |>.1
  obtain⟨e,he⟩:∃e,c.l[i]?=some e:=⟨_,zab hi⟩
  have hn:wF (some i)=(i:Int):=rfl;rw [hn] at e1;have h0:¬(i:Int) < 0:=by omega
  obtain⟨x,hx,c1⟩:=G1.seq h (i:=0) rfl;have hs:=c1.is (by decide) (dh bT c.l);have e3:=hs.ix (k:=.i64) (i:=(i:Int)) (by omega) (by omega);rw [zao] at e3;have e4:=jX bT hs he;have e5:=λH=> Td H e (hd e (zaw he)) (oh H e.data);have e6:e.avx (dat e.data)=e.av:=rfl;rw [e6] at e5;have hf':c.find aB=some e:=by rw [hf];exact he
  simp only [Nat.reduceAdd,aG,xq_,hq_,afW,e1,h0,hx,e3,e4,e5,hf',iV,zat,zaG]
theorem aev(G:Good b H g){c:Cfg}{eF:Rows}(h:g q=some (Bo c eF))(hd:∀e∈eF,e.2.data.length < 1000000000)(aB:Int):cl 155 [.ref q 0 0,I aB] H=some (.tup [.agg (oL eF aB).av,B (jM eF aB).isSome],H):=by
 refine aV rfl rfl (akw _ _ _ _) ?_ (sH λx hx=> ?_)
 ·have G1:=G.guard.new (.blk 0 130 [zI,zI,zN]);obtain⟨r,f1,f2,_⟩:=G1.map h (i:=8) rfl;have f3:=f2 (.agg #[.int .i64 0,.int .i64 0,.slice none 0 0]) aB true;rw [sJ] at f3;cases hr:jM eF aB with
  | none=>
   have e5:=λH=> jy H [] (by simp);have z0:dat ([]:List Int)=zN:=by simp [dat,gB]
   rw [z0] at e5;have zc:AV.cells (.s (.agg #[.int .i64 0,.int .i64 0,.slice none 0 0]))=[zI,zI,zN]:=rfl;simp only [hr,zcX,if_true] at f3;have zn:zN.aU=true:=rfl;have zn':zN.cells=[zN]:=rfl;simp only [Nat.reduceAdd,aG,xq_,hq_,Ye,f1,f3,zc,e5,oL,hr,Tc,zaT,zaB,zn,zn']
  | some w=>
   simp only [hr,zai,if_true] at f3;have hm:w.data.length < 1000000000:=by
    obtain⟨j,hj,_⟩:=Dc hr;exact hd _ (zaw hj)
   have e5:=λH=> jy H w.data hm;simp only [Nat.reduceAdd,aG,xq_,hq_,Ye,f1,f3,Row.av,e5,oL,hr,zat,zaG]
 ·simp only [zar,zaH,or_false] at hx;rcases hx with rfl | rfl
  ·exact lI (Ql _)
  ·exact dQ
theorem Hg(G:Good b H g){t:Turns}(h:g q=some (gU t))(aB:Int):cl 105 [.ref q 0 0,I aB] H=some (I (t.owner aB),H):=by
 refine aV rfl rfl (ajJ _ _ _ _) ?_ dQ;obtain⟨r,f1,f2,_⟩:=G.guard.map h (i:=0) rfl;have f3:=f2 (.int .i64 0) aB true;rw [sJ] at f3;cases hr:jM t.jQ aB with
 | none=>
  simp only [hr,zcX,if_true] at f3;simp only [Int.reduceNeg,xq_,XZ,f1,f3,Turns.owner,hr,zaT]
 | some w=>
  simp only [hr,zai,if_true] at f3;simp only [Int.reduceNeg,xq_,XZ,f1,f3,Turns.owner,hr,zat]
theorem vV(G:Good b H g){t:Turns}(h:g q=some (gU t))(aB:Int):cl 170 [.ref q 0 0,I aB] H=some (B (t.owned aB),H):=by
 refine aV rfl rfl (akK _ _ _ _) ?_ dQ;obtain⟨r,f1,f2,_⟩:=G.guard.map h (i:=0) rfl;have f3:=f2 (.int .i64 0) aB true;rw [sJ] at f3;cases hr:jM t.jQ aB with
 | none=>
  simp only [hr,zcX,if_true] at f3;simp only [xq_,Yk,f1,f3,Turns.owned,hr,zaB]
 | some w=>
  simp only [hr,zai,if_true] at f3;simp only [xq_,Yk,f1,f3,Turns.owned,hr,zaG]
def FD(w:Int × Int):List AV:=[I w.1,I w.2]
theorem JG {α β:Type}(f:α->β):∀(es:List (Int × α)) (n:Int),jM (es.map λe=> (e.1,f e.2)) n=(jM es n).map f
 | [],_=> rfl
 | (k,v)::es,n=> by
  simp only [zaC,jM];split
  ·rfl
  ·exact JG f es n
theorem alg(G:Good b H g){t:Turns}(h:g q=some (gU t))(aB:Int):∃r x,ld (.ref q 0 1) H=some (.mp r,H)/\lk .i64 (.slice none 0 0) (.mp r) (I aB) false H=some (x,H)/\Own b H x 2 ((t.ws aB).flatMap FD):=by
 obtain⟨r,f1,_,f2⟩:=G.maps h (i:=1) rfl;obtain⟨x,x1,x2,x3⟩:=f2 (.slice none 0 0) aB;refine⟨r,x,f1,x3 false,?_⟩;rw [JG (λl:List (Int × Int)=> l.flatMap λw=> [I w.1,I w.2])] at x1 x2;simp only [show(λw:Int × Int=> [I w.1,I w.2])=FD from rfl] at x1 x2;cases hr:jM t.wait aB with
 | none=>
  rw [hr] at x1;exact .inl ⟨x1 rfl,by simp [Turns.ws,hr]⟩
 | some w=>
  rw [hr] at x2;have:=x2 _ rfl
  simpa [Turns.ws,hr] using this
theorem uS(G:Good b H g){t:Turns}(h:g q=some (gU t))(aB:Int):cl 171 [.ref q 0 0,I aB] H=some (I (t.ws aB).length,H):=by
 refine aV rfl rfl (akL _ _ _ _) ?_ dQ;obtain⟨r,x,f1,f2,f3⟩:=alg G.guard h aB;have e:=(f3.is (n:=(t.ws aB).length) (by decide) (dh (enc:=FD) (λ_=> rfl) _)).lnS;simp only [xq_,aeh,f1,f2,e]
theorem abD {e m by_ r ty:Nat}{y:AV}{H:ah}(hx:H.get r=.blk 0 ty [])(hy:aH H y m 0 []):app e m by_ (.sl r 0 0 m 0 0 true) y H=some (.sl r 0 0 m 0 0 true,H):=by
 obtain⟨c1,c2⟩:=hy.AX;simp only [app,c1,c2,dJ];rw [if_pos ⟨by simp,rfl⟩];simp only [hx];rw [if_pos ⟨trivial,trivial,by simp⟩,if_pos trivial]
theorem Qm(H:ah){l:List Evn}(hl:l.length < 1000000000){x:AV}(hx:aH H x 4 l.length (l.flatMap Evn.av))(hf:∀a:Evn,∀z∈Evn.av a,Frz 8 z)(ha:∀a:Evn,(Evn.av a).all AV.aU=true)(hm:∀a:Evn,(Evn.av a).length=4):∃y,cl 65 [x] H=some (y,H)/\∀H':ah,aH H' y 4 l.length (l.flatMap Evn.av):=by
 by_cases hz:x=zN
 ·subst hz;have h0:l=[]:=by
   have h1:=hx.2.2.2;exact zan h1
  subst h0;refine⟨zN,iG rfl rfl (afL _ _ _ (r:=(zN,H.guard)) ?_) jg,λ_=> aH.nil⟩;have e:bi .eql 69 zN zN=some (B true):=by kernel_rfl
  simp only [xq_,abf,e]
 ·have e1:bi .eql 69 x zN=some (B false):=by
   obtain⟨_,hx⟩:=hx;cases x with
   | sl r g o m n c ex=> exact zO Tryz.underlying69
   | vs n m l=> exact qR Tryz.underlying69
   | s v=>
    cases v with
    | slice a b c=>
     cases a with
     | none=> obtain⟨rfl,rfl,_⟩:=hx;exact absurd rfl hz
     | some a=> exact hx.elim
    | _=> exact hx.elim
   | _=> exact hx.elim
  let H1:=H.guard.new (.blk 0 137 []);have x1:aH H1 x 4 l.length (l.flatMap Evn.av):=hx.guard.new _;by_cases h:l=[]
  ·subst h;have e2:=abD (e:=137) (by_:=32) (r:=H.next) (H:=H1) (aJ rfl) x1;refine⟨.vs 0 4 [],iG rfl rfl (afL _ _ _ (r:=(.sl H.next 0 0 4 0 0 true,H1)) ?_) ?_,λ_=> aH.vs rfl⟩
   ·simp only [H1] at e2;simp only [xq_,abf,e1,aaN,xE,e2,zbe,zaV];rfl
   ·refine ng (zac _) (cells:=[]) ?_ rfl;have:H1.get H.next=.blk 0 137 []:=aJ rfl
    simp only [bM,this];rfl
  ·have h0:l.length≠0:=λe=> h (zan e);have e2:=qQ (e:=137) (by_:=32) (r:=H.next) (H:=H1) (aJ rfl) x1 (RF ha l) h0 (by unfold most;omega) (by unfold most;omega);refine⟨.vs l.length 4 (l.flatMap Evn.av),iG rfl rfl (afL _ _ _ (r:=(.sl (H.next+1) 0 0 4 l.length l.length false,H1.new (.blk 0 (137+fQ) (l.flatMap Evn.av)))) ?_) ?_,λ_=> aH.vs (dh hm l)⟩
   ·have n1:H1.next=H.next+1:=rfl
    rw [n1] at e2;simp only [H1] at e2;simp only [xq_,abf,e1,aaN,xE,e2,zbe,zaV];rfl
   ·refine ng (by omega) (cells:=l.flatMap Evn.av) ?_ (iU _ λz hz=> SV hf l z hz _ _);have:(H1.new (.blk 0 (137+fQ) (l.flatMap Evn.av))).get (H.next+1)=.blk 0 (137+fQ) (l.flatMap Evn.av):=aJ rfl;simp only [bM,this];rw [if_pos ⟨trivial,by rw [dh hm];omega⟩,zaO,zaE (by rw [dh hm];exact zac _)]
theorem YP {x:AV}{m n:Nat}{cells:List AV}(h:∀H':ah,aH H' x m n cells)(hz:∀z∈cells,Frz 8 z):Frz 9 x:=by
 have h0:=h ah.empty;obtain⟨hl,h1⟩:=h0;cases x with
 | sl r g o m n c ex=> exact absurd h1.2.2.1.1 (by simp [ah.empty])
 | vs n m l=> obtain⟨_,_,rfl⟩:=h1;exact ac8 hz
 | s v=> exact dQ
 | _=> exact h1.elim
theorem xJ(G:Good b H g){l:List Evn}(h:g q=some (kH l))(h2:l.length < 1000000):∃x,cl 25 [.ref q 0 0] H=some (x,H)/\∀H':ah,aH H' x 4 l.length (l.flatMap Evn.av):=by
 obtain⟨x,hx,c⟩:=G.guard.seq h (i:=0) rfl;obtain⟨y,e,hy⟩:=Qm H.guard (l:=l) (by omega) (c.is (by decide) (dh mg l)) YG xB mg;refine⟨y,aV rfl rfl (am7 _ _ _) ?_ (YP hy λz hz=> ?_),hy⟩
 ·simp only [xq_,aiB,hx,e]
 ·obtain⟨a,_,ha⟩:=zbd.1 hz;exact YG a z ha
theorem agh(G:Good b H g){a:Nat->Nat}{c:Cfg}{me:Int}{n:Node}(N:nH g a c me n)(hd:∀e∈n.home.eF,e.2.data.length < 1000000000)(aB:Int):cl 111 [.ref (a 0) 0 0,I aB] H=some (.tup [.agg (oL n.home.eF aB).av,B (jM n.home.eF aB).isSome],H):=by
 obtain⟨h0,h1,h2,h3,h4,h5⟩:=N;refine aV rfl rfl (ajM _ _ _ _) ?_ (sH λx hx=> ?_)
 ·have G1:=G.guard.new (.blk 0 130 [zI,zI,zN]);have l1:=G1.load h0 (i:=11) (x:=.ref (a 3) 0 0) rfl;have l2:=G1.load h3 (i:=0) (x:=.ref (a 4) 0 0) rfl;have e:=aev G1 h4 hd aB;simp only [Nat.reduceAdd,aG,xq_,hq_,adz,l1,l2,e]
 ·simp only [zar,zaH,or_false] at hx;rcases hx with rfl | rfl
  ·exact lI (Ql _)
  ·exact dQ
theorem YQ(G:Good b H g){a:Nat->Nat}{c:Cfg}{me:Int}{n:Node}(N:nH g a c me n)(aB:Int):cl 58 [.ref (a 0) 0 0,I aB] H=some (I (n.home.bV.owner aB),H):=by
 obtain⟨h0,h1,h2,h3,h4,h5⟩:=N;refine aV rfl rfl (anx _ _ _ _) ?_ dQ;have l1:=G.guard.load h0 (i:=11) (x:=.ref (a 3) 0 0) rfl;have l2:=G.guard.load h3 (i:=1) (x:=.ref (a 5) 0 0) rfl;have e:=Hg G.guard h5 aB;simp only [xq_,ai0,l1,l2,e]
theorem Df(G:Good b H g){A:Adr}{m:dG}(M:fZ g A m)(hn:m.aP.length < 1000)(i:Int):cl 17 [.ref A.jc 0 0,I i] H=some (if 0<=i/\i < m.aP.length then .ref (A.N i.toNat 0) 0 0 else zP,H):=by
 obtain⟨x,hx,c⟩:=G.guard.seq M.jc (i:=10) rfl;have hs:=c.is (n:=m.aP.length) (by decide) (EJ _ _);have e2:=hs.lnS;have hall:bF H.guard H.next 9 (if 0<=i/\i < m.aP.length then .ref (A.N i.toNat 0) 0 0 else zP)=some (if 0<=i/\i < m.aP.length then .ref (A.N i.toNat 0) 0 0 else zP):=by
  split
  ·rename_i h;obtain⟨n,hn⟩:∃n,m.aP[i.toNat]?=some n:=⟨_,zab (by omega)⟩
   have:=G.lt (M.bn _ n hn).1;rw [bF];simp only [this,if_true]
  ·exact jg
 refine iG rfl rfl (am0 _ _ _ _ (r:=(_,H.guard)) ?_) hall;by_cases h0:i < 0
 ·have:¬(0<=i/\i < m.aP.length):=by omega
  rw [if_neg this];simp only [xq_,aa6,h0]
 ·by_cases h1:(m.aP.length:Int)<=i
  ·have:¬(0<=i/\i < m.aP.length):=by omega
   rw [if_neg this];simp only [xq_,aa6,h0,hx,e2,h1]
  ·have:0<=i/\i < m.aP.length:=by omega
   rw [if_pos this];have e3:=hs.ix (k:=.i64) (i:=i) (by omega) (by omega);have e4:=hs.ld (i:=i.toNat) (by omega);rw [Nr (by omega)] at e4;simp only [xq_,aa6,h0,hx,e2,h1,e3,e4]
end
def uT:List (List Pkt)->Nat->Int->Option (Nat × Int)
 | [],_,_=> none
 | l::ls,j,at_=> if 0<=at_/\at_ < l.length then some (j,at_) else uT ls (j+1) (at_ - l.length)
theorem qY:∀{ls:List (List Pkt)} {j:Nat} {at_:Int} {j':Nat} {k:Int},uT ls j at_=some (j',k)->j<=j'/\∃l,ls[j' - j]?=some l/\0<=k/\k < l.length/\0<=at_/\ls.flatten[at_.toNat]?=l[k.toNat]?
 | [],_,_,_,_,h=> by cases h
 | l::ls,j,at_,j',k,h=> by
  simp only [uT] at h;split at h
  ·rename_i hc;cases h;refine⟨zac _,l,by simp,hc.1,hc.2,hc.1,?_⟩;rw [zdB,zaP (by omega)]
  ·rename_i hc;obtain⟨h1,l',h2,h3,h4,h5,h6⟩:=qY h;refine⟨by omega,l',by rw [show j' - j=(j' - (j+1))+1 by omega];simpa using h2,h3,h4,by omega,?_⟩;rw [zdB,za4 (by omega),<-h6]
   congr 1;omega
theorem Af:∀{ls:List (List Pkt)} {j:Nat} {at_:Int},uT ls j at_=none->at_ < 0∨(ls.flatten.length:Int)<=at_
 | [],_,_,_=> by simp;omega
 | l::ls,j,at_,h=> by
  simp only [uT] at h;split at h
  ·cases h
  ·rename_i hc;have:=Af h;rw [zdB,zaq];omega
theorem Ah:∀l:List Port,(l.flatMap λp=> [p.rq,p.an]).flatten=l.flatMap λp=> p.rq++p.an
 | []=> rfl
 | p::l=> by simp [Ah l]
def jS(P:Nat->Nat->Nat)(j:Nat):List AV:=[.ref (P (j / 2) (if j % 2=0 then 0 else 2)) 0 0,.ref (P (j / 2) (if j % 2=0 then 1 else 3)) 0 0]
theorem Nv {P:Nat->Nat->Nat}{n j:Nat}(h:j < 2*n):((jd P n).drop (j*2)).take 2=jS P j:=by
 have hi:j / 2 < n:=by omega
 have hfl:=sG (m:=4) (enc:=λi=> mG (P i)) (λ_=> rfl) (List.range n) (j / 2) (j / 2) (zba hi);rcases Nat.mod_two_eq_zero_or_one j with h0 | h0
 ·have e:((jd P n).drop (j*2)).take 2=(((jd P n).drop (j / 2*4)).take 4).take 2:=by
   rw [zb9,show j / 2*4=j*2 by omega];rfl
  rw [e];refine(congrArg (List.take 2) hfl).trans ?_;simp [jS,h0,mG]
 ·have e:((jd P n).drop (j*2)).take 2=((((jd P n).drop (j / 2*4)).take 4).drop 2).take 2:=by
   rw [zcr,zbC,zb9,show j / 2*4+2=j*2 by omega];rfl
  rw [e];refine(congrArg (λl=> (List.drop 2 l).take 2) hfl).trans ?_;simp [jS,h0,mG]
theorem YR {g:bg}{f:Nat}{P:Nat->Nat->Nat}{c:Cfg}{fab:Fab}(F:gY g f P c fab){j:Nat}{l:List Pkt}(h:fab.kR[j]?=some l):
  g (P (j / 2) (if j % 2=0 then 0 else 2))=some (lQ l c.out):=by
 have hj:j < 2*fab.l.length:=by
  have:=(zak.1 h).1
  rwa [Fab.kR,sQ] at this
 obtain⟨l',a,a',h1,h2,h3⟩:=F.ale hj;rw [h] at h1;cases h1;rw [Nv hj] at h2;simp only [jS,zbJ,AV.ref.injEq,and_true] at h2;rw [h2.1];exact h3
section
variable {b:Nat}{H:ah}{g:bg}{f:Nat}{P:Nat->Nat->Nat}{c:Cfg}{fab:Fab}
def uU(P:Nat->Nat->Nat):Option (Nat × Int)->AV
 | some (j,k)=> .tup [.agg (jS P j),I k,B true]
 | none=> .tup [.agg [zP,zP],I 0,B false]
theorem YS(G:Good b H g)(F:gY g f P c fab)(hn:fab.l.length < 1000)(h0:fab.l.length≠0)(hr:∀l∈fab.kR,l.length < 1000)(at_:Int)(h64:BZ at_):
  cl 46 [.ref f 0 0,I at_] H=some (uU P (uT fab.kR 0 at_),H):=by
 have hpl:fab.kR.length=2*fab.l.length:=sQ _;have hpx:(jd P fab.l.length).length=(2*fab.l.length)*2:=by rw [jd,qg];omega
 let H0:=H.guard.new (.blk 0 90 [zP,zP]);have ep:=abA (G.guard.new (.blk 0 90 [zP,zP])) F hn h0;have xs:∀H':ah,aH H' (.vs (2*fab.l.length) 2 (jd P fab.l.length)) 2 (2*fab.l.length) (jd P fab.l.length):=λH'=> aH.vs hpx;let fnd:=uT fab.kR 0 at_;have key:∀k j,j+k=2*fab.l.length->∀(Hi:ah) (a:Int),H0.next<=Hi.next->Hi.base=H.next->(∀r,r < H0.next->Hi.get r=H0.get r)->BZ a->
   ((0<=a/\fnd=uT (fab.kR.drop j) j a)∨((a < 0∨9223372036854775808 - 1000 - 1000*(j:Int)<=a)/\fnd=none))->
   (Jg cl [I a,.ref H.next 0 0,.vs (2*fab.l.length) 2 (jd P fab.l.length),I (2*fab.l.length:Nat),I j] Hi).map Prod.fst=some (uU P fnd):=by
  intro k
  induction k with
  | zero=>
   intro j hj Hi a n1 b1 s1 ha hc;have h1:¬(j:Int) < (2*fab.l.length:Nat):=by omega
   have hf:fnd=none:=by
    rcases hc with⟨_,hc⟩ | ⟨_,hc⟩
    ·rw [hc,zaF (by omega)];rfl
    ·exact hc
   have g0:Hi.get H.next=.blk 0 90 [zP,zP]:=by rw [s1 _ (by show H.next < H.next+1;omega)];exact aJ rfl
   have hb1:Hi.base<=H.next:=by omega
   have e0:bd 90 []=some (.agg [zP,zP]):=by simp only [xq_,ahQ,jo,fJ]
   have e1:=adn (H:=Hi) (r:=H.next) (off:=0) (n:=2) (v:=.agg [zP,zP]) g0 hb1 rfl rfl (by decide);rw [hf,XF];have e2:=fO (H:=Hi.put H.next (.blk 0 90 (aG [zP,zP] 0 [zP,zP]))) (r:=H.next) (off:=0) (n:=2) (g:=0) (ty:=90) (xs:=[zP,zP]) LM (by decide);have hs:aG [zP,zP] 0 [zP,zP]=[zP,zP]:=rfl;simp only [eH,hs] at e1 e2;simp only [Nat.reduceAdd,aG,xq_,hq_,h1,e0,e1,e2,uU]
  | succ k ih=>
   intro j hj Hi a n1 b1 s1 ha hc;have h1:(j:Int) < (2*fab.l.length:Nat):=by omega
   have h6:(j:Int)+1=((j+1:Nat):Int):=by omega
   have h7:=wrap_i64 (a:=((j+1:Nat):Int)) (by omega) (by omega);have a1:=(xs Hi).ix (k:=.i64) (i:=(j:Int)) (by omega) h1;rw [zao] at a1;have a3:=(xs Hi).lda (i:=j) (by omega);rw [Nv (by omega)] at a3;obtain⟨l,hl⟩:∃l,fab.kR[j]?=some l:=⟨_,zab (by omega)⟩
   have p3:=YR F hl;have hlen:=hr l (zaw hl);let H1:=Hi.new (.blk 0 90 (jS P j));have G1:Good b H1 g:=(((G.guard.new _).ext n1 s1).new _)
   have e3:=agb G1 p3;have sb:Hi.base<=Hi.next:=by have:H.next+1<=Hi.next:=n1;omega
   have lt0:H.next < Hi.next:=n1
   have hd:fab.kR.drop j=l::fab.kR.drop (j+1):=by
    rw [zaR (by omega)];rw [zab (by omega)] at hl;rw [zaX hl]
   rw [XF];simp only [H1,jS] at e3;by_cases hin:0<=a/\a < l.length
   ·have hf:fnd=some (j,a):=by
     rcases hc with⟨_,hc⟩ | ⟨hc,_⟩
     ·rw [hc,hd,uT,if_pos hin]
     ·omega
    have g0:Hi.get H.next=.blk 0 90 [zP,zP]:=by rw [s1 _ (by show H.next < H.next+1;omega)];exact aJ rfl
    have hb1:Hi.base<=H.next:=by omega
    have e1:=adn (H:=Hi.new (.blk 0 90 (jS P j))) (r:=H.next) (off:=0) (n:=2) (v:=.agg (jS P j)) (by rw [aS lt0];exact g0) (by rw [iC];exact hb1) rfl rfl (by decide);have e2:=fO (H:=(Hi.new (.blk 0 90 (jS P j))).put H.next (.blk 0 90 (aG [zP,zP] 0 (jS P j)))) (r:=H.next) (off:=0) (n:=2) (g:=0) (ty:=90) (xs:=aG [zP,zP] 0 (jS P j)) LM (by simp [jS,aG]);simp only [eH,jS] at e1 e2;have hs:∀x y:AV,aG [zP,zP] 0 [x,y]=[x,y]:=λ_ _=> rfl;have h0:=hin.1;have h2:=hin.2;rw [hf];simp only [hs] at e1 e2;simp only [Nat.reduceAdd,aG,xq_,hq_,h1,a1,a3,jS,sb,h0,h2,e3,e1,e2,uU]
   ·have hw:∃a',IntKind.wrap .i64 (a - l.length)=a'/\BZ a'/\((0<=a'/\fnd=uT (fab.kR.drop (j+1)) (j+1) a')∨((a' < 0∨9223372036854775808 - 1000 - 1000*((j+1:Nat):Int)<=a')/\fnd=none)):=by
     rcases hc with⟨hc0,hc⟩ | ⟨hc,hn⟩
     ·refine⟨a - l.length,wrap_i64 (by omega) (by have:=ha.2;omega),⟨by omega,by have:=ha.2;omega⟩,.inl ⟨by omega,?_⟩⟩;rw [hc,hd,uT,if_neg hin]
     ·by_cases hlow:-9223372036854775808<=a - l.length
      ·refine⟨a - l.length,wrap_i64 hlow (by have:=ha.2;omega),⟨hlow,by have:=ha.2;omega⟩,.inr ⟨?_,hn⟩⟩;rcases hc with hc | hc
       ·left;omega
       ·right;omega
      ·refine⟨a - l.length+18446744073709551616,?_,⟨by have:=ha.1;omega,by omega⟩,.inr ⟨.inr (by have:=ha.1;omega),hn⟩⟩;have:a - l.length+18446744073709551616=IntKind.wrap .i64 (a - l.length):=by
        simp [IntKind.wrap,IntKind.signed,IntKind.bits];have:=ha.1;omega
       exact this.symm
    obtain⟨a',w1,w2,w3⟩:=hw;have r1:=ih (j+1) (by omega) (Hi.new (.blk 0 90 (jS P j))) a' (zbD n1) b1 (λr hr=> by rw [aS (by omega)];exact s1 r hr) w2 w3;simp only [jS] at r1;by_cases h0:0<=a
    ·have h2:¬a < l.length:=by omega
     simp only [Nat.reduceAdd,aG,xq_,hq_,h1,a1,a3,jS,sb,h0,h2,e3,ku,w1,bI,h6,h7,r1]
    ·simp only [Nat.reduceAdd,aG,xq_,hq_,h1,a1,a3,jS,sb,h0,e3,ku,w1,bI,h6,h7,r1]
 have r1:=key (2*fab.l.length) 0 (by omega) H0 at_ (zac _) rfl (λ_ _=> rfl) h64 (by
  by_cases h:0<=at_
  ·exact .inl ⟨h,rfl⟩
  ·refine .inr ⟨.inl (by omega),?_⟩;cases hf:uT fab.kR 0 at_ with
   | none=> exact hf
   | some r=>
    obtain⟨j,k⟩:=r;obtain⟨_,l,_,_,_,h5,_⟩:=qY hf;omega)
 have hz:∀Hz,bF Hz H.next 9 (uU P fnd)=some (uU P fnd):=by
  intro Hz;cases hf:fnd with
  | none=> exact sH (λx hx=> by
    simp only [zar,zaH,or_false] at hx;rcases hx with rfl | rfl | rfl
    ·exact lI (λx hx=> by
      simp only [zar,zaH,or_false] at hx;rcases hx with rfl | rfl <;> exact dQ)
    ·exact dQ
    ·exact dQ) Hz _
  | some r=>
   obtain⟨j,k⟩:=r;obtain⟨_,l,hl,_⟩:=qY hf;rw [Nat.sub_zero] at hl;have hj:j / 2 < fab.l.length:=by
    have:=(zak.1 hl).1;omega
   have l1:=F.lt G (i:=j / 2) (s:=if j % 2=0 then 0 else 2) hj (by split <;> omega);have l2:=F.lt G (i:=j / 2) (s:=if j % 2=0 then 1 else 3) hj (by split <;> omega);refine Gz λx hx=> ?_;simp only [zar,zaH,or_false] at hx;rcases hx with rfl | rfl | rfl
   ·refine Gy λx hx=> ?_;simp only [jS,zar,zaH,or_false] at hx;rcases hx with rfl | rfl
    ·rw [bF];exact if_pos l1
    ·rw [bF];exact if_pos l2
   ·exact jg
   ·exact jg
 cases hs:UO cl (.ref f 0 0) (I at_) H.guard with
 | none=>
  exfalso;have e2:=(xs H0).lnS;simp only [H0] at ep e2 r1;have:(UO cl (.ref f 0 0) (I at_) H.guard).map Prod.fst=some (uU P fnd):=by
   simp only [xq_,UO,ep,e2];exact r1
  rw [hs] at this;cases this
 | some r=>
  have e2:=(xs H0).lnS;simp only [H0] at ep e2 r1;have:(UO cl (.ref f 0 0) (I at_) H.guard).map Prod.fst=some (uU P fnd):=by
   simp only [xq_,UO,ep,e2];exact r1
  rw [hs] at this;simp only [zai,zaa] at this;obtain⟨v,Hz⟩:=r;simp only at this;subst this;exact iG rfl rfl (anl _ _ _ _ hs) (hz Hz)
def Fab.pkt(f:Fab)(at_:Int):Option Pkt:=if at_ < 0 then none else f.all[at_.toNat]?
theorem YT(G:Good b H g)(F:gY g f P c fab)(hn:fab.l.length < 1000)(h0:fab.l.length≠0)(hr:∀l∈fab.kR,l.length < 1000/\∀p∈l,p.data.length < 1000000000)(at_:Int)(h64:BZ at_):
  cl 41 [.ref f 0 0,I at_] H=some (gQ (fab.pkt at_),H):=by
 have G1:=G.guard.new (.blk 0 99 [zI,zI,zI,zI,zI,zI,zI,zB,zN]);have e1:=YS G1 F hn h0 (λl hl=> (hr l hl).1) at_ h64;have hall:fab.kR.flatten=fab.all:=Ah fab.l;refine aV rfl rfl (anh _ _ _ _) ?_ (Aa _);cases hf:uT fab.kR 0 at_ with
 | none=>
  rw [hf] at e1;have hp:fab.pkt at_=none:=by
   have:=Af hf;rw [hall] at this;unfold Fab.pkt;split
   ·rfl
   ·rw [zaK (by omega)]
  have zc:([zP,zP]:List AV).all AV.aU=true:=rfl;simp only [Nat.reduceAdd,aG,xq_,hq_,afA,e1,uU,zc,xw,jo,dH,hp,gQ,eP,zaT,zaB,zaf]
 | some r=>
  obtain⟨j,k⟩:=r;rw [hf] at e1;obtain⟨_,l,h2,h3,h4,h5,h6⟩:=qY hf;rw [Nat.sub_zero] at h2;have p3:=YR F h2;have hp:fab.pkt at_=l[k.toNat]?:=by
   unfold Fab.pkt;rw [if_neg (by omega),<-hall,h6]
  have e2:=λo=> Yu (G1.new o) p3 (hr l (zaw h2)).1 (hr l (zaw h2)).2 k;have hk:¬k < 0:=by omega
  have ha:¬at_ < 0:=by omega
  simp only [hk,if_false] at e2;rw [hp];obtain⟨p,hpp⟩:∃p,l[k.toNat]?=some p:=⟨_,zab (by omega)⟩
  rw [hpp] at e2 ⊢;simp only [Nat.reduceAdd,aG,xq_,hq_,afA,e1,uU,jS,ha,e2,gQ,zat,zaG,zad]
end
theorem Own.name {b:Nat}{H:ah}{m:Nat}{x:AV}{l:List AV}(c:Own b H x m l){r:Nat}(h:iP x=some r):b<=r/\r < H.next:=by
 rcases c with⟨rfl,_⟩ | ⟨r',g,off,n',cap,ex,ty,all,rfl,k2,k3,_⟩
 ·cases h
 ·simp only [iP,zaa] at h;omega
theorem YU(H:ah)(aB fwd back:Int)(fB:Bool){l:List Int}(hl:l.length < 1000000000){x:AV}(hx:jR H x l):cl 192 [I aB,I fwd,I back,B fB,x] H=some (.agg (Ent.mk fwd back aB 0 fB l).av,H):=by
 refine aV rfl rfl (akW _ _ _ _ _ _ _) ?_ (lI (JF _));have e1:=λo=> uQ (H.guard.new o) hl (hx.guard.new o);simp only [Nat.reduceAdd,Nat.reduceLeDiff,aG,xq_,hq_,ael,e1,ahU,WW,jo,fJ,acL,acM,Ent.av]
theorem aoi(H:ah)(e:Ent)(w:Int):cl 167 [.agg e.av,I w] H=some (B (decide (0<=w/\w < e.data.length)),H.new (.blk 0 117 e.av)):=by
 refine aX rfl rfl (aef _ _ _ _ ?_);have e1:=λH=> (gI H e.data).lnS;by_cases h0:0<=w
 ·simp only [Nat.reduceLT,xq_,hq_,MR,aC,Ent.av,h0,e1]
 ·simp only [Nat.reduceLT,xq_,hq_,MR,aC,Ent.av,h0,false_and]
theorem agi(H:ah)(e:Ent)(w:Int):cl 133 [.agg e.av,I w] H=some (I (e.word w),H):=by
 refine aV rfl rfl (aj6 _ _ _ _) ?_ dQ;have e1:=λH=> aoi H e w;by_cases h0:0<=w/\w < e.data.length
 ·have e2:=λH=> (gI H e.data).ix (k:=.i64) (i:=w) h0.1 h0.2;have e3:=λH=> (gI H e.data).ld (i:=w.toNat) (by omega);have e4:(e.data.map I)[w.toNat]?=some (I (e.word w)):=by
   unfold Ent.word;rw [if_pos h0,zaD,zab (by omega),zaJ,zab (by omega)];rfl
  rw [e4] at e3;have e5:e.av[5]?=some (dat e.data):=rfl;simp only [Nat.reduceLT,xq_,hq_,Ya,aC,e1,h0,e2,e3,e5,zad]
 ·have:e.word w=0:=by unfold Ent.word;rw [if_neg h0]
  rw [this];simp only [Nat.reduceLT,xq_,hq_,Ya,aC,e1,h0,zaf]
section
variable {b:Nat}{H:ah}{g:bg}{q:Nat}
theorem Tf(G:Good b H g){c:Cache}(h:g q=some (bJ c))(hl:c.l.length < 1000000)(hs0:1<=c.sets)(aB:Int):cl 148 [.ref q 0 0,I aB] H=some (vsl 6 Ent.av (c.uG aB),H):=by
 obtain⟨x,hx,cx⟩:=G.guard.seq h (i:=0) rfl;have hs:=cx.is (n:=c.l.length) (by decide) (dh bT c.l);have e2:=hs.lnS;let p:Ent->Bool:=λe=> decide (0<=aB) && decide (e.aB.tmod c.sets=aB.tmod c.sets)
 let F:Nat->List Ent:=λj=> (c.l.take j).filter p
 have hF:∀j,(F j).length<=j:=λj=> zas (zbS _ _) (by rw [zav];omega);have key:∀k j,j+k=c.l.length->∀Hi t,Step H.next H.guard Hi->Own H.next Hi t 6 ((F j).flatMap Ent.av)->(F j=[]->t=zN)->
   ∃t' H',CG cl [.ref q 0 0,I aB,t,x,I c.l.length,I j] Hi=some (t',H')/\Own H.next H' t' 6 ((c.uG aB).flatMap Ent.av)/\(c.uG aB=[]->t'=zN):=by
  intro k
  induction k with
  | zero=>
   intro j hj Hi t s o z;have h1:¬(j:Int) < c.l.length:=by omega
   have:F j=c.uG aB:=by
    simp only [F,Cache.uG,p];rw [zaE (by omega)]
   rw [this] at o z;refine⟨t,Hi,?_,o,z⟩;rw [Sr];simp only [xq_,h1]
  | succ k ih=>
   intro j hj Hi t s o z;have h1:(j:Int) < c.l.length:=by omega
   have h6:(j:Int)+1=((j+1:Nat):Int):=by omega
   have h7:=wrap_i64 (a:=((j+1:Nat):Int)) (by omega) (by omega);obtain⟨e,he⟩:∃e,c.l[j]?=some e:=⟨_,zab (by omega)⟩
   have hsi:aH Hi x 6 c.l.length (c.l.flatMap Ent.av):=hs.fV s.next λr _ hr=> s.low r hr
   have s1:=hsi.ix (k:=.i64) (i:=(j:Int)) (by omega) h1;rw [zao] at s1;have s2:=jX bT hsi he;have bi:Hi.base=H.next:=s.base.trans adi
   have ni:H.next<=Hi.next:=s.next
   have hbase:Hi.base<=Hi.next:=by omega
   have Gi:Good b Hi g:=G.guard.ext s.next s.low
   have l1:=(Gi.new (.blk 0 117 e.av)).load h (i:=1) (x:=I c.sets) rfl;have r0:c.sets≠0:=by omega
   have hFs:F (j+1)=F j++if p e=true then [e] else []:=by
    simp only [F,zc9,he,zc1,zcc]
    congr 1
    cases hp:p e <;> simp [hp]
   rw [Sr];by_cases hc:0<=aB/\e.aB.tmod c.sets=aB.tmod c.sets
   ·have hp:p e=true:=by simp only [p,hc.1,hc.2,decide_true,zcA]
    rw [hp,if_pos rfl] at hFs;have hm:=hF j;obtain⟨t1,H2,a1,a2,a3⟩:=((o.new (.blk 0 117 e.av)).new (.blk 0 117 e.av)).step (e:=117) (by_:=64) (n:=(F j).length) (by simp only [dL];omega) (by simp only [iC];omega) (by decide) (dh bT _) (jI (ex:=true) (n:=1) (m:=6) (l:=e.av) rfl) (jf e) (by unfold most;omega) (by unfold most;omega);have a2':Own H.next H2 t1 6 ((F (j+1)).flatMap Ent.av):=by rw [hFs,zbE];simpa using a2
    obtain⟨t',H',r1,r2⟩:=ih (j+1) (by omega) H2 t1 (((s.trans (Step.new _ ni)).trans (Step.new _ (by simp only [dL];omega))).trans a3) a2' (λhz=> by rw [hFs] at hz;simp at hz);refine⟨t',H',?_,r2⟩;simp only [dL] at a1;have lf:e.av[2]?=some (I e.aB):=rfl;simp only [Nat.reduceAdd,Nat.reduceLeDiff,aG,xq_,hq_,h1,s1,s2,hbase,hc,lf,l1,qA r0,yN,WU,zbm,gZ (m:=6) (z:=[zI,zI,zI,zI,zB,zN]) (v:=.agg e.av) rfl rfl (jf e),a1,bI,h6,h7];exact r1
   ·have hp:p e=false:=by
     simp only [p];by_cases h0:0<=aB
     ·have:¬e.aB.tmod c.sets=aB.tmod c.sets:=λh=> hc ⟨h0,h⟩;simp [this]
     ·simp [h0]
    rw [hp,if_neg (by simp),zbb] at hFs;obtain⟨t',H',r1,r2⟩:=ih (j+1) (by omega) (Hi.new (.blk 0 117 e.av)) t (s.trans (Step.new _ ni)) (by rw [hFs];exact o.new _) (by rw [hFs];exact z);refine⟨t',H',?_,r2⟩;have lf:e.av[2]?=some (I e.aB):=rfl;by_cases h0:0<=aB
    ·have hne:¬e.aB.tmod c.sets=aB.tmod c.sets:=λh=> hc ⟨h0,h⟩;simp only [Nat.reduceAdd,aG,xq_,hq_,h1,s1,s2,hbase,h0,hne,lf,l1,qA r0,yN,bI,h6,h7,r1]
    ·simp only [Nat.reduceAdd,aG,xq_,hq_,h1,s1,s2,hbase,h0,yN,bI,h6,h7,r1]
 obtain⟨t',H',r1,r2,r3⟩:=key c.l.length 0 (by omega) H.guard zN (Step.refl _ _) (.inl ⟨rfl,rfl⟩) (λ_=> rfl);refine iG rfl rfl (aks _ _ _ _ (r:=(t',H')) ?_) ?_
 ·simp only [xq_,ad5,hx,e2];exact r1
 ·by_cases hz:c.uG aB=[]
  ·rw [r3 hz,hz,gB];exact jg
  ·rw [I5 hz];refine vU r2 (by decide) (dh bT _) (λy hy=> ?_) (λe=> hz (zan e));obtain⟨a,_,ha⟩:=zbd.1 hy;exact JF (d:=6) a y ha _ _
theorem Nw(G:Good b H g){c:Cache}(h:g q=some (bJ c))(hl:c.l.length < 1000000)(hs0:1<=c.sets)(aB:Int):cl 101 [.ref q 0 0,I aB] H=some (B (c.full aB),H):=by
 refine aV rfl rfl (ajF _ _ _ _) ?_ dQ;have e1:=EM G.guard h hl aB;have e2:=Tf G.guard.guard h hl hs0 aB;have e3:=(Gt bT H.guard (c.uG aB)).lnS;have e4:=G.guard.load h (i:=2) (x:=I c.ways) rfl;have hf:(c.find aB).isNone=(c.at_ aB).isNone:=by
  rw [show c.find aB=(c.at_ aB).bind λi=> c.l[i]? from(qj c.l).symm];cases ha:c.at_ aB with
  | none=> rfl
  | some i=>
   have hi:i < c.l.length:=zbu.1 ha |>.1
   simp [zab hi]
 cases ha:c.at_ aB with
 | none=>
  rw [ha] at e1 hf;have hn:wF (none:Option Nat)=-1:=rfl;rw [hn] at e1;simp only [Int.reduceLT,Int.reduceNeg,xq_,XV,e1,e2,e3,e4,Cache.full,hf,zcZ,zaI]
 | some i=>
  rw [ha] at e1 hf;have hn:wF (some i)=(i:Int):=rfl;rw [hn] at e1;have h0:¬(i:Int) < 0:=by omega
  simp only [xq_,XV,e1,h0,Cache.full,hf,Option.isNone_some,zaL]
end
theorem abE(H:ah)(a e:Ent)(h:BZ (a.used - e.used)):cl 150 [.agg a.av,.agg e.av] H=some (I (a.used - e.used),H):=by
 refine aV rfl rfl (aku _ _ _ _) ?_ dQ;have w:=wrap_i64 h.1 h.2;simp only [Nat.reduceLT,xq_,hq_,ad8,aC,Ent.av,ku,w]
abbrev aew(m:Ent)(l:List Ent):Ent:=l.foldl (λm x=> if x.used < m.used then x else m) m
theorem U0(H:ah)(hb:H.base<=H.next){a:Ent}{l:List Ent}(hl:l.length < 1000000)(hu:∀e∈a::l,0<=e.used/\e.used < 1000000000):
  ∃H',cl 149 [vsl 6 Ent.av (a::l),.fn (.func 150) [] []] H=some (.agg (aew a l).av,H'):=by
 obtain⟨L,hL⟩:∃L,L=a::l:=⟨_,rfl⟩
 have hs:=λH=> Gt bT H L;have hll:L.length=l.length+1:=by rw [hL];rfl
 rw [<-hL] at hu ⊢;let HH:Ent->ah:=λm=> (H.new (.blk 0 117 [zI,zI,zI,zI,zB,zN])).new (.blk 0 117 m.av)
 have key:∀k j,j+k=L.length->∀m,m∈L->
   ∃H',CJ cl [vsl 6 Ent.av L,.fn (.func 150) [] [],.ref H.next 0 0,.ref (H.next+1) 0 0,I j] (HH m)=some (.agg (aew m (L.drop j)).av,H'):=by
  intro k
  induction k with
  | zero=>
   intro j hj m hm;have h1:¬(j:Int) < L.length:=by omega
   have s0:=(hs (HH m)).lnS;have hd:L.drop j=[]:=zaF (by omega);refine⟨(H.new (.blk 0 117 m.av)).new (.blk 0 117 m.av),?_⟩;rw [Sv,hd];simp only [HH] at s0 ⊢;simp only [Nat.reduceAdd,aG,xq_,hq_,s0,h1,hb,aew,List.foldl_nil]
  | succ k ih=>
   intro j hj m hm;have h1:(j:Int) < L.length:=by omega
   have h6:(j:Int)+1=((j+1:Nat):Int):=by omega
   have h7:=wrap_i64 (a:=((j+1:Nat):Int)) (by omega) (by omega);obtain⟨e,he⟩:∃e,L[j]?=some e:=⟨_,zab (by omega)⟩
   have s0:=(hs (HH m)).lnS;have s1:=(hs (HH m)).ix (k:=.i64) (i:=(j:Int)) (by omega) h1;rw [zao] at s1;have s2:=jX bT (hs (HH m)) he;have u1:=hu _ (zaw he);have u2:=hu _ hm;have c0:oH Tryz.prog cl (.fn (.func 150) [] []) [.agg e.av,.agg m.av] (HH m)=some (I (e.used - m.used),HH m):=by
    rw [ny (by kernel_rfl)];exact abE _ e m ⟨by omega,by omega⟩
   have hd:L.drop j=e::L.drop (j+1):=by
    rw [zaR (by omega)];rw [zab (by omega)] at he;rw [zaX he]
   rw [Sv,hd];by_cases hc:e.used < m.used
   ·have hc':e.used - m.used < 0:=by omega
    obtain⟨H',r1⟩:=ih (j+1) (by omega) e (zaw he);refine⟨H',?_⟩;simp only [HH] at s0 s1 s2 c0 r1 ⊢;simp only [Nat.reduceAdd,aG,xq_,hq_,s0,h1,s1,s2,c0,hc',hb,CO,bI,h6,h7,aew,zbI,hc];exact r1
   ·have hc':¬e.used - m.used < 0:=by omega
    obtain⟨H',r1⟩:=ih (j+1) (by omega) m hm;refine⟨H',?_⟩;simp only [HH] at s0 s1 s2 c0 r1 ⊢;simp only [Nat.reduceAdd,aG,xq_,hq_,s0,h1,s1,s2,c0,hc',hb,CO,bI,h6,h7,aew,zbI,hc];exact r1
 obtain⟨H',r1⟩:=key l.length 1 (by omega) a (by rw [hL];simp);refine⟨H',aX rfl rfl (akt _ _ _ _ ?_)⟩;let H1:=H.new (.blk 0 117 [zI,zI,zI,zI,zB,zN]);have s0:=(hs H1).lnS;have h1:¬(L.length:Int) < 1:=by omega
 have s1:=(hs H1).ix (k:=.i64) (i:=(0:Int)) (by omega) (by omega);have s2:=jX bT (hs H1) (i:=0) (a:=a) (by rw [hL];rfl);rw [show((0:Int).toNat)=0 from rfl] at s1;have d1:L.drop 1=l:=by rw [hL];rfl
 rw [d1] at r1;simp only [HH] at r1;simp only [H1] at s0 s1 s2;have j1:((1:Nat):Int)=1:=rfl;rw [j1] at r1;simp only [Nat.reduceAdd,aG,xq_,hq_,ad7,Jv,s0,h1,s1,s2,hb];exact r1
section
variable {b:Nat}{H:ah}{g:bg}{q:Nat}
theorem agj(c:Cache)(aB:Int):∀e∈c.uG aB,e∈c.l:=λe he=> (zbt.1 he).1
theorem Qn(G:Good b H g){c:Cache}(h:g q=some (bJ c))(hl:c.l.length < 1000000)(hs0:1<=c.sets)(hu:∀e∈c.l,0<=e.used/\e.used < 1000000000)(aB:Int):
  cl 102 [.ref q 0 0,I aB] H=some (.tup [I ((c.qU aB).getD 0),B (c.qU aB).isSome],H):=by
 refine aV rfl rfl (ajG _ _ _ _) ?_ (sH λx hx=> by
  simp only [zar,zaH,or_false] at hx;rcases hx with rfl | rfl <;> exact dQ)
 have e2:=Tf G.guard h hl hs0 aB;have e3:=(Gt bT H.guard (c.uG aB)).lnS;have hlen:(c.uG aB).length<=c.l.length:=zbS _ _;cases hz:c.uG aB with
 | nil=>
  rw [hz] at e2 e3;have hv:c.qU aB=none:=by simp [Cache.qU,hz,zT]
  simp only [xq_,XW,e2,e3,hv,zam,Int.ofNat_zero,zaT,zaB]
 | cons a l=>
  rw [hz] at e2 e3 hlen;have hv:c.qU aB=some (aew a l).aB:=by simp [Cache.qU,hz,zT]
  obtain⟨H',e4⟩:=U0 H.guard (zac _) (a:=a) (l:=l) (by simp only [zah] at hlen;omega) (λe he=> hu e (agj c aB e (by rw [hz];exact he)));have h1:¬((a::l).length:Int)=0:=by simp only [zah];omega
  have lf:(aew a l).av[2]?=some (I (aew a l).aB):=rfl;simp only [xq_,XW,e2,e3,h1,e4,hv,lf,zat,zaG]
end
theorem Hl {α:Type}{enc:α->List AV}{m:Nat}(he:∀a,(enc a).length=m){a':α}{o:Nat}{vs:List AV}(ho:o+vs.length<=m):∀(l:List α) (i:Nat) (a:α),l[i]?=some a->aG (enc a) o vs=enc a'->aG (l.flatMap enc) (i*m+o) vs=(l.set i a').flatMap enc
 | [],i,a,h,_=> by simp at h
 | x::l,0,a,h,hv=> by
  simp only [za2,zaa] at h;subst h;have hl:=he x;rw [zcD,zaQ,zaQ,<-hv];unfold aG;rw [zbe,za5,zb3 (by omega),List.drop_append_of_le_length (by omega)];simp only [zdC]
 | x::l,i+1,a,h,hv=> by
  have hl:=he x;have ih:=Hl he ho l i a (by simpa using h) hv;rw [zc0,zaQ,zaQ,<-ih];unfold aG;have e1:(i+1)*m+o=(enc x).length+(i*m+o):=by rw [hl,zbx,zbm];omega
  have e2:(i+1)*m+o+vs.length=(enc x).length+(i*m+o+vs.length):=by rw [hl,zbx,zbm];omega
  rw [e2,e1,List.take_length_add_append,List.drop_length_add_append,zdC]
section
variable {b:Nat}{H:ah}{g:bg}{q:Nat}
theorem Ny(G:Good b H g)(hb:H.base<=b){c:Cache}(h:g q=some (bJ c)){x:AV}(cx:Cur b H q 0 x 6 (c.l.flatMap Ent.av)){i:Nat}{e e':Ent}(hi:c.l[i]?=some e):
  ∃r gg off,dW x i=.ref r gg off/\∀(w o:Nat) (v:AV),v.cells.length=w->v.cells.all AV.aU=true->o+w<=6->aG e.av o v.cells=e'.av->
   ∃H',st w (.ref r gg (off+o)) v H=some (aO,H')/\Good b H' (upd g q (bJ { c with l:=c.l.set i e' }))/\Step b H H'/\H'.next=H.next:=by
 obtain⟨r,gg,off,e1,e2⟩:=G.elem hb h (i:=0) rfl (by decide) (dh bT c.l) cx (j:=i) (zak.1 hi).1;refine⟨r,gg,off,e1,λw o v h1 h2 h3 h4=> ?_⟩;obtain⟨H',s1,s2,s3⟩:=e2 w o v h1 h2 h3;refine⟨H',s1,?_,s3⟩;have:=Hl bT (o:=o) (vs:=v.cells) (by omega) c.l i e hi h4;rw [this] at s2;exact s2
theorem U1(G:Good b H g)(hb:H.base<=b){c:Cache}(h:g q=some (bJ c))(hl:c.l.length < 1000000)(hk:0<=c.dD/\c.dD < 1000000000)(aB:Int):
  ∃H',cl 100 [.ref q 0 0,I aB] H=some (B (c.at_ aB).isSome,H')/\Good b H' (upd g q (bJ (c.touch aB)))/\Step b H H':=by
 refine jK rfl rfl (ajD _ _ _ _) ?_;have e1:=EM G h hl aB;cases ha:c.at_ aB with
 | none=>
  rw [ha] at e1;have hn:wF (none:Option Nat)=-1:=rfl;rw [hn] at e1;refine⟨H,?_,by rw [show c.touch aB=c by simp [Cache.touch,ha],eU h];exact G,Step.refl _ _⟩;simp only [Int.reduceLT,Int.reduceNeg,xq_,XU,e1,zaB]
 | some i=>
  rw [ha] at e1;have hn:wF (some i)=(i:Int):=rfl;rw [hn] at e1;have h0:¬(i:Int) < 0:=by omega
  have hi:i < c.l.length:=zbu.1 ha |>.1
  obtain⟨e,he⟩:∃e,c.l[i]?=some e:=⟨_,zab hi⟩
  have l1:=G.load h (i:=3) (x:=I c.dD) rfl;have w1:=wrap_i64 (a:=c.dD+1) (by omega) (by omega);obtain⟨H1,s1,G1,s3,s4⟩:=G.store hb h (i:=3) (v:=I (c.dD+1)) (by simp [bJ]) dw;have h1:upd g q ((bJ c).set 3 (.av (I (c.dD+1)))) q=some (bJ { c with dD:=c.dD+1 }):=aN;have l2:=G1.load h1 (i:=3) (x:=I (c.dD+1)) rfl;obtain⟨x,hx,cx⟩:=G1.seq h1 (i:=0) rfl;have hs:=cx.is (n:=c.l.length) (by decide) (dh bT c.l);have e3:=hs.ix (k:=.i64) (i:=(i:Int)) (by omega) (by omega);rw [zao] at e3;obtain⟨r,gg,off,p1,p2⟩:=Ny G1 (by rw [s3.base];exact hb) h1 cx (e':={ e with used:=c.dD+1 }) he;obtain⟨H2,t1,t2,t3,t4⟩:=p2 1 3 (I (c.dD+1)) rfl rfl (by decide) rfl;rw [p1] at e3;refine⟨H2,?_,?_,s3.trans t3⟩
  ·simp only [xq_,XU,e1,h0,l1,bI,w1,s1,hx,l2,e3,t1,zaG]
  ·rw [qB] at t2;have:c.touch aB={ c with l:=c.l.set i { e with used:=c.dD+1 },dD:=c.dD+1 }:=by
    simp only [Cache.touch,ha];rw [zaJ,he];rfl
   rw [this];exact t2
theorem agk {i n:Nat}{x:AV}{l:List AV}(c:Cur b H q i x 6 l)(hb:H.base<=b)(hl:l.length=n*6)(hn:n < 1000000000){j:Nat}(hj:j < n):
  ∃x' H',cl 198 [x,I j,I (j+1)] H=some (x',H')/\Fit H H' x x' 6 (l.take (j*6)++l.drop ((j+1)*6))/\H'.next=H.next/\H'.base=H.base/\∀r,iP x≠some r->H'.get r=H.get r:=by
 obtain⟨y,x1,x2,x3,H1,x4,H2,e1,e2,e3,e4,e5,e6,e7,f,n1,b1,k1⟩:=RG c hb (by decide) hl hn hj (z:=[zI,zI,zI,zI,zB,zN]) rfl rfl (e:=117) (by_:=64) (by decide);have e0:=(c.is (by decide) hl).lnS;have hne:((j:Int)=j+1)=False:=eq_false (by omega);refine⟨x3,H2,aX rfl rfl (ak2 _ _ _ _ _ ?_),f,n1,b1,k1⟩;simp only [xq_,aeo,e0,e1,e2,e3,e4,e5,e6,e7,hne]
theorem YV(G:Good b H g)(hb:H.base<=b){c:Cache}(h:g q=some (bJ c))(hl:c.l.length < 1000000){j:Nat}(hj:j < c.l.length):
  ∃x x' H1 H2,ld (.ref q 0 0) H=some (x,H)/\cl 198 [x,I j,I (j+1)] H=some (x',H1)/\st 1 (.ref q 0 0) x' H1=some (aO,H2)/\Good b H2 (upd g q (bJ { c with l:=c.l.eraseIdx j }))/\Step b H H2:=by
 obtain⟨x,hx,cx⟩:=G.seq h (i:=0) rfl;obtain⟨x',H1,d1,d2,d3,d4,d5⟩:=agk cx hb (dh bT c.l) (by omega) hj;rw [GX bT] at d2;obtain⟨H2,s1,s2,s3,s4⟩:=G.seat h (i:=0) rfl cx (by omega) (by omega) (λr _ hr=> d5 r hr) d2;exact⟨x,x',H1,H2,hx,d1,s1,s2,Step.trans ⟨d4,by omega,λr hr=> d5 r (cx.low hr)⟩ s3⟩
theorem EN(G:Good b H g)(hb:H.base<=b){c:Cache}(h:g q=some (bJ c))(hl:c.l.length < 1000000)(hd:∀e∈c.l,e.data.length < 1000000000)(aB:Int):
  ∃H',cl 177 [.ref q 0 0,I aB] H=some (iV (c.find aB),H')/\Good b H' (upd g q (bJ (c.drop aB)))/\Step b H H':=by
 have hq:=G.lt h;have G1:=G.newObj (ty:=117) (xs:=[zI,zI,zI,zI,zB,zN]) rfl;have h1:upd g H.next ([zI,zI,zI,zI,zB,zN].map .av) q=some (bJ c):=by rw [aY (by omega)];exact h
 have e1:=lM G1 h1 hl hd aB;have hb0:H.base<=H.next:=zas hb G.1
 refine jK rfl rfl (akT _ _ _ _) ?_;have hf:c.find aB=(c.at_ aB).bind λi=> c.l[i]?:=(qj c.l).symm;cases ha:c.at_ aB with
 | none=>
  rw [ha] at hf;have hf:c.find aB=none:=hf;rw [hf] at e1;simp only [iV,zaT,zaB,qh] at e1;have hdr:c.drop aB=c:=by simp [Cache.drop,ha]
  simp only [Nat.reduceAdd,aG,xq_,hq_,zaa,zae,exists_eq_left',Yl,e1,CX,iV,hf,zaT,zaB,qh,hb0];rw [hdr,eU h];exact⟨(G.new _).new _,(Step.new _ G.1).trans (Step.new _ (G.new _).1)⟩
 | some i=>
  have hi:i < c.l.length:=zbu.1 ha |>.1
  obtain⟨e,he⟩:∃e,c.l[i]?=some e:=⟨_,zab hi⟩
  rw [ha] at hf;have hf:c.find aB=some e:=by rw [hf];exact he
  rw [hf] at e1;simp only [iV,zat,zaG] at e1;have G2:=G1.newObj (ty:=117) (xs:=e.av) (jf _);have h2:upd (upd g H.next ([zI,zI,zI,zI,zB,zN].map .av)) (H.next+1) (e.av.map .av) q=some (bJ c):=by rw [aY (by omega)];exact h1
  have e2:=EM G2 h2 hl aB;have hn:wF (some i)=(i:Int):=rfl;rw [ha,hn] at e2;obtain⟨x,x',K1,K2,s1,s2,s3,s4,s5⟩:=YV G2 (by rw [iC,iC];omega) h2 hl hi;have G3:Good b K2 _:=s4;let gz:=upd (upd (upd g H.next ([zI,zI,zI,zI,zB,zN].map .av)) (H.next+1) (e.av.map .av)) q (bJ { c with l:=c.l.eraseIdx i });have q2:gz (H.next+1)=some (e.av.map .av):=by simp only [gz];rw [aY (by omega),aN]
  have q1:gz H.next=some ([zI,zI,zI,zI,zB,zN].map .av):=by simp only [gz];rw [aY (by omega),aY (by omega),aN]
  have l2:=G3.loads q2 (i:=0) (n:=6) (xs:=e.av) rfl rfl (by decide);obtain⟨K3,t1,t2,t3,t4⟩:=G3.stores (by rw [s5.base,iC,iC];exact hb) q1 (i:=0) (n:=6) (vs:=e.av) (by decide) rfl (jf _);have l3:=t2.loads aN (i:=0) (n:=6) (xs:=e.av) rfl rfl (by decide);have w1:=wrap_i64 (a:=(i:Int)+1) (by omega) (by omega);have hdr:c.drop aB={ c with l:=c.l.eraseIdx i }:=by simp [Cache.drop,ha]
  simp only [Nat.reduceAdd,aG,xq_,hq_,zaa,zae,exists_eq_left',Yl,e1,CX,iV,hf,zat,zaG,hb0,e2,bI,w1,s1,s2,s3,l2,t1,l3,hdr];have n1:g H.next=none:=G.isNone (zac _)
  have n2:g (H.next+1)=none:=G.isNone (by omega);exact⟨t2.sub (((((uf.refl g).more n1 _).more n2 _).both q _).more (yj n1 (by omega)) _),(((Step.new _ G.1).trans (Step.new _ (G.new _).1)).trans s5).trans t3⟩
end
section
variable {b:Nat}{H:ah}{g:bg}{q:Nat}
theorem Ti(G:Good b H g)(hb:H.base<=b){c:Cache}(h:g q=some (bJ c))(hl:c.l.length < 1000000)(hs0:1<=c.sets)(hk:0<=c.dD/\c.dD < 1000000000)(e:Ent){x:AV}(hel:e.data.length < 1000000000)(hx:jR H x e.data):
  ∃H',cl 135 [.ref q 0 0,.agg (e.avx x)] H=some (I (c.put e).2,H')/\Good b H' (upd g q (bJ (c.put e).1))/\Step b H H':=by
 have hq:=G.lt h;have hb0:H.base<=H.next:=zas hb G.1
 have ax:=abC (p:=e) hx.one;have e0:=Td (H.new (.blk 0 117 (e.avx x))) e hel (hx.new _);have ll:(e.avx x).length=6:=rfl;have lt:(e.avx x).take 6=e.avx x:=rfl;have l6:(e.avx x).drop 6=[]:=rfl;let H1:=H.new (.blk 0 117 e.av);have G1:Good b H1 g:=G.new _;have lf:e.av[2]?=some (I e.aB):=rfl;refine jK rfl rfl (aj8 _ _ _ _) ?_;by_cases hneg:e.aB < 0
 ·have hp:c.put e=(c,1):=by simp only [Cache.put];rw [if_pos hneg]
  rw [hp];refine⟨H1,?_,by rw [eU h];exact G1,Step.new _ G.1⟩;simp only [Nat.reduceLT,aG,xq_,hq_,MN,aC ax,ll,lt,l6,e0,hb0,lf,hneg];rfl
 ·have e1:=EM G1 h hl e.aB;cases ha:c.at_ e.aB with
  | some i=>
   rw [ha] at e1;have hn:wF (some i)=(i:Int):=rfl;rw [hn] at e1;have h0:(0:Int)<=i:=by omega
   have hi:i < c.l.length:=zbu.1 ha |>.1
   obtain⟨o,ho⟩:∃o,c.l[i]?=some o:=⟨_,zab hi⟩
   obtain⟨y,hy0,cy⟩:=G.seq h (i:=0) rfl;have c1:=cy.new (.blk 0 117 e.av);have y1:=c1.load;have hs:=c1.is (n:=c.l.length) (by decide) (dh bT c.l);have e3:=hs.ix (k:=.i64) (i:=(i:Int)) (by omega) (by omega);rw [zao] at e3;have e4:=hs.acZ (i:=i) (o:=3) hi (by decide);rw [YM bT c.l i o ho (by decide)] at e4;let e':Ent:={ e with used:=o.used }
   let H2:=H.new (.blk 0 117 e'.av);have G2:Good b H2 g:=G.new _;have c2:=cy.new (.blk 0 117 e'.av);have y2:=c2.load;have hs2:=c2.is (n:=c.l.length) (by decide) (dh bT c.l);have e5:=hs2.ix (k:=.i64) (i:=(i:Int)) (by omega) (by omega);rw [zao] at e5;obtain⟨r,gg,off,p1,p2⟩:=Ny G2 hb h c2 (e':=e') ho;obtain⟨H3,t1,t2,t3,t4⟩:=p2 6 0 (.agg e'.av) rfl (jf e') (by decide) (by simp only [eH];rfl);rw [p1] at e3 e4 e5;rw [pK] at e4;have ou:o.av[3]?=some (I o.used):=rfl;simp only [za0,ou,zai] at e4;rw [zbp] at t1;have hp:c.put e=({ c with l:=c.l.set i e' },0):=by
    simp only [Cache.put];rw [if_neg hneg,ha];simp only [e',zaJ,ho,zat]
   rw [hp];refine⟨H3,?_,t2,(Step.new _ G.1).trans t3⟩;simp only [H1,Ent.av] at e1 y1 e3 e4;simp only [H2,e',Ent.av] at y2 e5 t1;simp only [Nat.reduceLT,Nat.reduceAdd,aG,xq_,hq_,MN,aC ax,ll,lt,l6,e0,hb0,hneg,e1,h0,y1,e3,e4,Ent.av,y2,e5,t1]
  | none=>
   rw [ha] at e1;have hn:wF (none:Option Nat)=-1:=rfl;rw [hn] at e1;have e2:=Nw G1 h hl hs0 e.aB;simp only [H1] at e1 e2;cases hf:c.full e.aB with
   | true=>
    have hp:c.put e=(c,5):=by simp only [Cache.put];rw [if_neg hneg,ha];simp only [hf,if_true]
    rw [hp];rw [hf] at e2;refine⟨H1,?_,by rw [eU h];exact G1,Step.new _ G.1⟩;simp only [Nat.reduceLT,Int.reduceLE,Int.reduceNeg,aG,xq_,hq_,MN,aC ax,ll,lt,l6,e0,hb0,lf,hneg,e1,e2];rfl
   | false=>
    rw [hf] at e2;let e':Ent:={ e with used:=c.dD+1 }
    have hp:c.put e=({ c with l:=c.l++[e'],dD:=c.dD+1 },0):=by simp only [Cache.put];rw [if_neg hneg,ha];simp only [hf,zal,if_false];rfl
    rw [hp];have F1:=G.newObj (ty:=117) (xs:=e.av) (jf e);have f1:upd g H.next (e.av.map .av) q=some (bJ c):=by rw [aY (by omega)];exact h
    have l1:=F1.load f1 (i:=3) (x:=I c.dD) rfl;have w1:=wrap_i64 (a:=c.dD+1) (by omega) (by omega);obtain⟨H2,s1,F2,s3,s4⟩:=F1.store hb f1 (i:=3) (v:=I (c.dD+1)) (by simp [bJ]) dw;have f2:upd (upd g H.next (e.av.map .av)) q ((bJ c).set 3 (.av (I (c.dD+1)))) q=some (bJ { c with dD:=c.dD+1 }):=aN;have l2:=F2.load f2 (i:=3) (x:=I (c.dD+1)) rfl;have f3:upd (upd g H.next (e.av.map .av)) q ((bJ c).set 3 (.av (I (c.dD+1)))) H.next=some (e.av.map .av):=by rw [aY (by omega),aN]
    obtain⟨H3,t1,F3,t3,t4⟩:=F2.store (by rw [s3.base];exact hb) f3 (i:=3) (v:=I (c.dD+1)) (by simp [Ent.av]) dw;have f4:upd (upd (upd g H.next (e.av.map .av)) q ((bJ c).set 3 (.av (I (c.dD+1))))) H.next ((e.av.map .av).set 3 (.av (I (c.dD+1)))) q=some (bJ { c with dD:=c.dD+1 }):=by rw [aY (by omega)];exact f2
    have l4:=F3.loads aN (i:=0) (n:=6) (xs:=e'.av) rfl rfl (by decide);obtain⟨y,hy,cy⟩:=F3.seq f4 (i:=0) rfl;obtain⟨x',K1,K2,a1,a2,a3,a4⟩:=(F3.new (.blk 0 117 e'.av)).append (e:=117) (by_:=64) (n:=c.l.length) (by rw [iC,t3.base,s3.base];exact hb) f4 (i:=0) rfl (by decide) (dh bT c.l) (cy.new _) (jI (ex:=true) (n:=1) (m:=6) (l:=e'.av) rfl) (jf e') (by unfold most;omega) (by unfold most;omega);refine⟨K2,?_,?_,(((Step.new _ G.1).trans s3).trans t3).trans ((Step.new _ F3.1).trans a4)⟩
    ·simp only [Nat.reduceLT,Int.reduceLE,Int.reduceNeg,Nat.reduceLeDiff,aG,xq_,hq_,MN,aC ax,ll,lt,l6,e0,hb0,lf,hneg,e1,e2,l1,bI,w1,s1,l2,t1,hy,l4,WU,zbm,gZ (m:=6) (z:=[zI,zI,zI,zI,zB,zN]) (v:=.agg e'.av) rfl rfl (jf e'),a1,a2]
    ·refine a3.sub λq' cs hq'=> ?_;have n1:g H.next=none:=G.isNone (zac _)
     unfold upd at hq' ⊢;by_cases e3:q'=q
     ·rw [if_pos e3] at hq' ⊢;cases hq';simp [bJ]
     ·rw [if_neg e3] at hq' ⊢;have:q'≠H.next:=λe4=> by rw [e4,n1] at hq';cases hq'
      rw [if_neg this,if_neg e3,if_neg this];exact hq'
end
theorem Nz:∀(es:List (Int × AV)) (n:Int) (v:AV),Io es n v=nC es n v
 | [],_,_=> rfl
 | (k,w)::es,n,v=> by
  simp only [Io,nC];split
  ·rfl
  ·rw [Nz es n v]
theorem JH {α:Type}:∀{es:List (Int × α)} {n:Int} {v:α} {j:Nat} {n':Int} {w:α},(es.map (·.1)).Nodup->(nC es n v)[j]?=some (n',w)->(n'=n/\w=v)∨(n'≠n/\es[j]?=some (n',w))
 | [],n,v,j,n',w,_,h=> by
  simp only [nC] at h;cases j with
  | zero=> simp only [za2,zaa,zae] at h;exact .inl ⟨h.1.symm,h.2.symm⟩
  | succ j=> simp at h
 | (k0,v0)::es,n,v,j,n',w,hn,h=> by
  simp only [zaC,List.nodup_cons] at hn;simp only [nC] at h;split at h
  ·rename_i e;cases j with
   | zero=> simp only [za2,zaa,zae] at h;exact .inl ⟨h.1.symm,h.2.symm⟩
   | succ j=>
    simp only [zbo] at h;refine .inr ⟨λe'=> hn.1 ?_,by simpa using h⟩;rw [e,<-e'];exact zaS.2 ⟨_,zaw h,rfl⟩
  ·rename_i e;cases j with
   | zero=>
    simp only [za2,zaa,zae] at h;refine .inr ⟨λe'=> e (by rw [h.1,e']),by simp [h.1,h.2]⟩
   | succ j=>
    simp only [zbo] at h;rcases JH hn.2 h with h' | ⟨h1,h2⟩
    ·exact .inl h'
    ·exact .inr ⟨h1,by simpa using h2⟩
theorem Ho {α β:Type}:∀{es:List (Int × α)} {az:List (Int × β)} {n:Int} {v:α} {w:β},az.map (·.1)=es.map (·.1)->(nC az n w).map (·.1)=(nC es n v).map (·.1)
 | [],[],_,_,_,_=> rfl
 | [],_::_,_,_,_,h=> by simp at h
 | _::_,[],_,_,_,h=> by simp at h
 | (k,v0)::es,(k',w0)::az,n,v,w,h=> by
  simp only [zaC,zbJ] at h;obtain⟨rfl,h⟩:=h;simp only [nC];split
  ·simp [h]
  ·simp only [zaC,zbJ,true_and];exact Ho h
section
variable {b:Nat}{H:ah}{g:bg}{q:Nat}{cs:List Cell}
theorem Good.JI(G:Good b H g)(h:g q=some cs){i m:Nat}{k:IntKind}{es:List (Int × List AV)}(hi:cs[i]?=some (.maps k m es))(hnd:(es.map (·.1)).Nodup)(n:Int):
  ∃r x,ld (.ref q 0 i) H=some (.mp r,H)/\lk k (.slice none 0 0) (.mp r) (.s (.int k n)) false H=some (x,H)/\Own b H x m ((jM es n).getD [])/\iP x≠some q/\q < H.next/\(∀r',iP x=some r'->b<=r')/\
   ∀H1 x' l',H.next<=H1.next->H1.base<=b->(∀r',r' < H.next->iP x≠some r'->H1.get r'=H.get r')->Fit H H1 x x' m l'->
    ∃H',mup k (.mp r) (.s (.int k n)) x' H1=some (aO,H')/\Good b H' (upd g q (cs.set i (.maps k m (nC es n l'))))/\Step b H1 H'/\H'.next=H1.next:=by
 obtain⟨h0,τ,hR⟩:=G;have R:=hR q cs h;obtain⟨ty,xs,h1,h2,h3,h4⟩:=R.blk;have hqn:=R.hi;have hlt:i < xs.length:=by rw [h2];exact(zak.1 hi).1
 have hx:xs[i]?=some (xs[i]'hlt):=zab hlt;have:=h4 i _ _ hi hx;simp only [CR] at this;obtain⟨aes,⟨r,e,t1,t2,t3,t4⟩,a2,a3⟩:=this;rw [e] at hx;have hrq:q≠r:=by intro e;subst e;rw [R.tag] at t1;cases t1
 obtain⟨x,x1,x2⟩:∃x,OS b H τ (q,i+1,1,n) x m ((jM es n).getD [])/\lk k (.slice none 0 0) (.mp r) (.s (.int k n)) false H=some (x,H):=by
  cases hn:jM es n with
  | none=>
   have hf:oD aes n=none:=by rw [qX];exact(Nu a2).1 hn
   refine⟨zN,.inl ⟨rfl,rfl⟩,?_⟩;simp only [lk,jT,bD,zai,lkO,t4,and_self,if_true,hf];rfl
  | some l=>
   obtain⟨j,w,b1,b2,b3⟩:=EL a2 hn;refine⟨w,a3 j n l w b2 b3,?_⟩;simp only [lk,jT,bD,zai,lkO,t4,and_self,if_true,qX,b1];rfl
 have htag:∀r',iP x=some r'->τ r'=some (q,i+1,1,n)/\b<=r':=by
  intro r' hr;rcases x1 with⟨rfl,_⟩ | ⟨r0,gg,off,n',cap,ex,ty',all,rfl,k1,k2,_⟩
  ·cases hr
  ·simp only [iP,zaa] at hr;subst hr;exact⟨k1,k2⟩
 have hxq:iP x≠some q:=λe=> by have:=(htag q e).1;rw [R.tag] at this;cases this
 have hxr:iP x≠some r:=λe=> by have:=(htag r e).1;rw [t1] at this;simp at this
 refine⟨r,x,by rw [dR h1,hx];rfl,x2,x1.own,hxq,hqn,λr' hr=> (htag r' hr).2,λH1 x' l' hn hb hk hf=> ?_⟩;have hg1:H1.get r=.map k aes:=by rw [hk r t3 hxr,t4]
 refine⟨H1.put r (.map k (Io aes n x')),?_,?_,Step.put _ t2,rfl⟩
 ·simp only [mup,hg1];rw [if_pos ⟨trivial,trivial,by omega⟩]
 ·refine vH (τ':=λr'=> if H.next<=r' then some (q,i+1,1,n) else τ r') h0 hR (show H.next<=H1.next from hn) (λr' hr ht=> ⟨by rw [if_neg (by omega)],?_⟩)
   ⟨by rw [if_neg (by omega)];exact R.tag,R.lo,show q < H1.next by omega,wM (xs:=xs) (by rw [bQ,if_neg hrq,hk q hqn hxq];exact h1) (R.tyl _ _ _ h1),ty,xs,by rw [bQ,if_neg hrq,hk q hqn hxq];exact h1,by simp [h2],h3,λj cc y hc hy=> ?_⟩
  ·rw [bQ,if_neg (by intro e;subst e;exact ht _ _ _ t1)];exact hk r' hr λe=> ht _ _ _ (htag r' e).1
  ·rcases lH hc with⟨rfl,rfl⟩ | ⟨hj,hc⟩
   ·rw [hx] at hy;cases hy;refine⟨nC aes n x',⟨r,rfl,by simp only;rw [if_neg (by omega)];exact t1,t2,show r < H1.next by omega,by rw [bQ,if_pos rfl,Nz]⟩,Ho a2,λj' n' cells y' h5 h6=> ?_⟩;rcases JH hnd h5 with⟨rfl,rfl⟩ | ⟨hne,h5⟩
    ·rcases JH (by rw [a2];exact hnd) h6 with⟨_,rfl⟩ | ⟨hne,_⟩
     ·rcases hf with hf | ⟨r0,gg,off,n'',cap,ex,ty',all,rfl,k1,k2,k3,k4,k5⟩
      ·exact .inl hf
      ·have hr0:r0≠r:=by
        rcases k1 with k1 | k1
        ·intro e;subst e;exact hxr k1
        ·omega
       refine .inr ⟨r0,gg,off,n'',cap,ex,ty',all,rfl,?_,?_,k2,k3,by rw [bQ,if_neg hr0];exact k4,k5⟩
       ·show(if H.next<=r0 then some (q,j+1,1,n') else τ r0)=some (q,j+1,1,n');split
        ·rfl
        ·rcases k1 with k1 | k1
         ·exact(htag r0 k1).1
         ·omega
       ·rcases k1 with k1 | k1
        ·exact(htag r0 k1).2
        ·omega
     ·exact absurd rfl hne
    ·rcases JH (by rw [a2];exact hnd) h6 with⟨h7,_⟩ | ⟨_,h6⟩
     ·exact absurd h7 hne
     ·refine(a3 j' n' cells y' h5 h6).keep (show H.next<=H1.next from hn) λr' hr ht=> ⟨by rw [if_neg (by omega)];exact ht,?_⟩
      rw [bQ,if_neg (by intro e;subst e;rw [t1] at ht;simp at ht)];refine hk r' hr λe=> ?_;have:=(htag r' e).1;rw [this] at ht;simp only [zaa,zae,true_and] at ht;exact hne ht.symm
   ·refine(h4 j cc y hc hy).keep (show H.next<=H1.next from hn) λr' s t hr ht=> ⟨by rw [if_neg (by omega)];exact ht,?_⟩
    rw [bQ,if_neg (by intro e;subst e;rw [t1] at ht;simp only [zaa,zae,zbU] at ht;exact hj ht.2.1.symm)];refine hk r' hr λe=> ?_;have:=(htag r' e).1;rw [this] at ht;simp only [zaa,zae,zbU] at ht;exact hj ht.2.1.symm
theorem Good.agl(G:Good b H g)(h:g q=some cs){i m:Nat}{k:IntKind}{es:List (Int × List AV)}(hi:cs[i]?=some (.maps k m es)):
  ∃r aes,ld (.ref q 0 i) H=some (.mp r,H)/\r < H.next/\H.get r=.map k aes/\aes.map (·.1)=es.map (·.1):=by
 obtain⟨h0,τ,hR⟩:=G;have R:=hR q cs h;obtain⟨ty,xs,h1,h2,h3,h4⟩:=R.blk;have hlt:i < xs.length:=by rw [h2];exact(zak.1 hi).1
 have hx:xs[i]?=some (xs[i]'hlt):=zab hlt;have:=h4 i _ _ hi hx;simp only [CR] at this;obtain⟨aes,⟨r,e,t1,t2,t3,t4⟩,a2,a3⟩:=this;rw [e] at hx;exact⟨r,aes,by rw [dR h1,hx];rfl,t3,t4,a2⟩
end
abbrev Ai(t:Turns):List (Int × List AV):=t.wait.map λe=> (e.1,e.2.flatMap FD)
theorem Aj(t:Turns):(Ai t).map (·.1)=t.wait.map (·.1):=by simp [Ai]
theorem EO(t:Turns)(aB:Int):(jM (Ai t) aB).getD []=(t.ws aB).flatMap FD:=by
 rw [Ai,JG (λl:List (Int × Int)=> l.flatMap FD)];unfold Turns.ws;cases jM t.wait aB <;> rfl
theorem NC(w:List (Int × List (Int × Int)))(aB:Int)(l:List (Int × Int)):nC (w.map λe=> (e.1,e.2.flatMap FD)) aB (l.flatMap FD)=(nC w aB l).map λe=> (e.1,e.2.flatMap FD):=by
 induction w with
 | nil=> rfl
 | cons e w ih=>
  obtain⟨k,v⟩:=e;simp only [zaC,nC];split
  ·rfl
  ·rw [ih];rfl
section
variable {b:Nat}{H:ah}{g:bg}{q:Nat}
theorem abG(G:Good b H g)(hb:H.base<=b){t:Turns}(h:g q=some (gU t))(hw:(t.wait.map (·.1)).Nodup)(aB who id:Int)(hl:(t.ws aB).length < 1000000):
  ∃H',cl 172 [.ref q 0 0,I aB,I who,I id] H=some (B (t.ask aB who id).2,H')/\Good b H' (upd g q (gU (t.ask aB who id).1))/\Step b H H':=by
 refine jK rfl rfl (akN _ _ _ _ _ _) ?_;have e1:=vV G h aB;have e2:=uS G h aB;by_cases hneg:who < 0
 ·have hp:t.ask aB who id=(t,false):=by simp only [Turns.ask];rw [if_pos hneg]
  rw [hp];refine⟨H,?_,by rw [eU h];exact G,Step.refl _ _⟩;simp only [xq_,MS,hneg]
 ·by_cases hc:(t.owned aB || !(t.ws aB).isEmpty)=true
  ·have hp:t.ask aB who id=({ t with wait:=nC t.wait aB (t.ws aB++[(who,id)]) },false):=by simp only [Turns.ask];rw [if_neg hneg,if_pos hc]
   rw [hp];obtain⟨r,x,f1,f2,f3,f4,f5,f6,f7⟩:=G.JI h (i:=1) rfl (by rw [show t.wait.map (λe=> (e.1,e.2.flatMap λw=> [I w.1,I w.2]))=Ai t from rfl,Aj];exact hw) aB;rw [show t.wait.map (λe=> (e.1,e.2.flatMap λw=> [I w.1,I w.2]))=Ai t from rfl,EO] at f3;let o:fD:=.blk 0 251 [I who,I id];obtain⟨x',H1,a1,a2,a3,a4,a5⟩:=(f3.new o).app (e:=251) (by_:=16) (n:=(t.ws aB).length) (by rw [iC];exact hb) (by decide) (dh (enc:=FD) (λ_=> rfl) _) (jI (ex:=true) (n:=1) (m:=2) (l:=[I who,I id]) rfl) rfl (by unfold most;omega) (by unfold most;omega);have a2':Fit H H1 x x' 2 ((t.ws aB++[(who,id)]).flatMap FD):=by
    rw [zbE];rcases a2 with a2 | ⟨r0,gg,off,n',cap,ex,ty,all,k0,k1,k2⟩
    ·exact .inl a2
    ·exact .inr ⟨r0,gg,off,n',cap,ex,ty,all,k0,k1.imp (λh=> h) λh=> zas (za8 _) h,k2⟩
   have a5':∀r',r' < H.next->iP x≠some r'->H1.get r'=H.get r':=λr' hr hne=> by rw [a5 r' (zau hr (za8 _)) hne,aS hr]
   obtain⟨H',m1,m2,m3,m4⟩:=f7 H1 x' _ (zas (za8 _) a3) (by rw [a4,iC];exact hb) a5' a2';have hgq:H1.get q=(H.new o).get q:=by rw [a5' q f5 f4,aS f5]
   refine⟨H',?_,?_,Step.trans ⟨by rw [a4,iC],zas (za8 _) a3,λr' hr=> a5' r' (zau hr G.1) λe=> by have:=f6 r' e;omega⟩ m3⟩
   ·have ck1:∀{β:Type} (k:Option β),ck (bD (.ref q 0 1)) (H.new o) H1 k=k:=λk=> abB λr' hr=> by
     simp only [bD,zaa] at hr;subst hr;exact hgq
    have ed:bd 251 [(0,I who),(1,I id)]=some (.agg [I who,I id]):=by
     simp only [xq_,ah3,jo,fJ,acW];rfl
    have eb:=gZ (e:=251) (m:=2) (z:=[zI,zI]) (v:=.agg [I who,I id]) (H:=H) rfl rfl rfl;simp only [eH] at eb;simp only [o] at a1 ck1;cases ho:t.owned aB with
    | true=>
     rw [ho] at e1;simp only [xq_,MS,hneg,e1,f1,f2,ed,acJ,zbm,Nat.reduceLeDiff,eb,a1,m1,ck1]
    | false=>
     rw [ho] at e1 hc;have hgt:(0:Int) < (t.ws aB).length:=by
      cases hz:t.ws aB with
      | nil=> rw [hz] at hc;simp at hc
      | cons a l=> simp only [zah];omega
     simp only [xq_,MS,hneg,e1,e2,hgt,f1,f2,ed,acJ,zbm,Nat.reduceLeDiff,eb,a1,m1,ck1]
   ·have:gU { t with wait:=nC t.wait aB (t.ws aB++[(who,id)]) }=(gU t).set 1 (.maps .i64 2 (nC (Ai t) aB ((t.ws aB++[(who,id)]).flatMap FD))):=by
     rw [NC];rfl
    rw [this];exact m2
  ·have hp:t.ask aB who id=({ t with jQ:=nC t.jQ aB who },true):=by simp only [Turns.ask];rw [if_neg hneg,if_neg hc]
   rw [hp];have ho:t.owned aB=false:=by cases h1:t.owned aB <;> simp_all
   have hz:t.ws aB=[]:=by
    rw [ho] at hc;cases hz:t.ws aB with
    | nil=> rfl
    | cons a l=> rw [hz] at hc;simp at hc
   rw [ho] at e1;rw [hz] at e2;obtain⟨r,f1,_,_,f2⟩:=G.map h (i:=0) rfl;obtain⟨H',m1,m2,m3,m4⟩:=(f2 hb).1 aB (I who);refine⟨H',?_,?_,m3⟩
   ·have hgt:¬(0:Int) < (0:Nat):=by decide
    simp only [xq_,MS,hneg,e1,e2,zam,hgt,f1,m1]
   ·rw [zS (λn=> I n)] at m2;exact m2
theorem ND(G:Good b H g)(hb:H.base<=b){t:Turns}(h:g q=some (gU t))(aB who:Int):
  ∃H',cl 197 [.ref q 0 0,I aB,I who] H=some (I (t.release aB who).2,H')/\Good b H' (upd g q (gU (t.release aB who).1))/\Step b H H':=by
 refine jK rfl rfl (ak0 _ _ _ _ _) ?_;have e1:=vV G h aB;obtain⟨r,f1,f3,_,f2⟩:=G.map h (i:=0) rfl;have f4:=f3 (.int .i64 0) aB false;rw [sJ] at f4;cases hr:jM t.jQ aB with
 | none=>
  have hp:t.release aB who=(t,6):=by simp only [Turns.release,hr];rw [if_neg (by simp)]
  have ho:t.owned aB=false:=by simp [Turns.owned,hr]
  rw [hp];rw [ho] at e1;refine⟨H,?_,by rw [eU h];exact G,Step.refl _ _⟩;simp only [xq_,SE,e1,zaf]
 | some w=>
  have ho:t.owned aB=true:=by simp [Turns.owned,hr]
  rw [ho] at e1;simp only [hr,zai,zal,if_false] at f4;by_cases hw:w=who
  ·have hp:t.release aB who=({ t with jQ:=FB t.jQ aB },0):=by simp only [Turns.release,hr];rw [if_pos (by rw [hw])]
   rw [hp];obtain⟨H',m1,m2,m3,m4⟩:=(f2 hb).2 aB;refine⟨H',?_,?_,m3⟩
   ·simp only [xq_,SE,e1,zad,f1,f4,hw,m1]
   ·rw [RH (λn=> I n)] at m2;exact m2
  ·have hp:t.release aB who=(t,6):=by simp only [Turns.release,hr];rw [if_neg (by simpa using hw)]
   rw [hp];refine⟨H,?_,by rw [eU h];exact G,Step.refl _ _⟩;simp only [xq_,SE,e1,zad,zaf,f1,f4,hw]
def alh(o:Option (Int × Int)):AV:=.tup [I (o.getD (0,0)).1,I (o.getD (0,0)).2,B o.isSome]
theorem YW(G:Good b H g)(hb:H.base<=b){t:Turns}(h:g q=some (gU t))(hw:(t.wait.map (·.1)).Nodup)(aB:Int)(hl:(t.ws aB).length < 1000000):
  ∃H',cl 140 [.ref q 0 0,I aB] H=some (alh (t.next aB).2,H')/\Good b H' (upd g q (gU (t.next aB).1))/\Step b H H':=by
 refine jK rfl rfl (akh _ _ _ _) ?_;have e1:=vV G h aB;have e2:=uS G h aB;cases ho:t.owned aB with
 | true=>
  have hp:t.next aB=(t,none):=by simp only [Turns.next,ho,if_true]
  rw [hp];rw [ho] at e1;refine⟨H,?_,by rw [eU h];exact G,Step.refl _ _⟩;simp only [xq_,Sm,e1,alh,zaT,zaB]
 | false=>
  rw [ho] at e1;cases hz:t.ws aB with
  | nil=>
   have hp:t.next aB=(t,none):=by simp only [Turns.next,ho,hz,zal,if_false]
   rw [hp];rw [hz] at e2;refine⟨H,?_,by rw [eU h];exact G,Step.refl _ _⟩;simp only [xq_,Sm,e1,e2,zam,Int.ofNat_zero,alh,zaT,zaB]
  | cons w l=>
   have hp:t.next aB=(⟨nC t.jQ aB w.1,nC t.wait aB l⟩,some w):=by simp only [Turns.next,ho,hz,zal,if_false]
   rw [hp];rw [hz] at e2;obtain⟨r,x,f1,f2,f3,f4,f5,f6,f7⟩:=G.JI h (i:=1) rfl (by rw [show t.wait.map (λe=> (e.1,e.2.flatMap λw=> [I w.1,I w.2]))=Ai t from rfl,Aj];exact hw) aB;rw [show t.wait.map (λe=> (e.1,e.2.flatMap λw=> [I w.1,I w.2]))=Ai t from rfl,EO,hz] at f3;have hs:=f3.is (n:=(w::l).length) (by decide) (dh (enc:=FD) (λ_=> rfl) _);have s1:=hs.ix (k:=.i64) (i:=(0:Int)) (by omega) (by simp only [zah];omega);rw [show((0:Int).toNat)=0 from rfl] at s1;have s2:=jX (enc:=FD) (λ_=> rfl) hs (i:=0) (a:=w) rfl;have G1:=G.newObj (ty:=251) (xs:=[I w.1,I w.2]) rfl;have hqn:q≠H.next:=G.ne h
   have h1:upd g H.next ([I w.1,I w.2].map .av) q=some (gU t):=by rw [aY hqn];exact h
   obtain⟨r',x',f1',f2',f3',f4',f5',f6',f7'⟩:=G1.JI h1 (i:=1) rfl (by rw [show t.wait.map (λe=> (e.1,e.2.flatMap λw=> [I w.1,I w.2]))=Ai t from rfl,Aj];exact hw) aB;rw [show t.wait.map (λe=> (e.1,e.2.flatMap λw=> [I w.1,I w.2]))=Ai t from rfl,EO,hz] at f3';have hln:=f3'.is (n:=(w::l).length) (by decide) (dh (enc:=FD) (λ_=> rfl) _);rcases f3' with⟨_,f3'⟩ | ⟨r0,gg,off,n',cap,ex,ty,all,rfl,k2,k3,k4,k5,k6,k7,k8⟩
   ·simp [FD] at f3'
   have hn':n'=l.length+1:=by have:=hln.2.2.1;simp only [zah] at this;omega
   subst hn';have sl:=BX (r:=r0) (gg:=gg) (off:=off) (m:=2) (len:=l.length+1) (cap:=cap) (ex:=ex) (k1:=.i64) (lo:=1) (by decide) (by omega) k4;have t1:(1:Int).toNat=1:=rfl;rw [t1,zbm,Nat.add_sub_cancel] at sl;have hle:(l.length+1)*2<=cap*2:=zaz _ k4;have hfit:Fit (H.new (.blk 0 251 [I w.1,I w.2])) (H.new (.blk 0 251 [I w.1,I w.2])) (.sl r0 gg off 2 (l.length+1) cap ex) (.sl r0 gg (off+2) 2 l.length (cap - 1) ex) 2 (l.flatMap FD):=by
    refine .inr ⟨r0,gg,off+2,l.length,cap - 1,ex,ty,all,rfl,.inl rfl,k3,by omega,k5,by rw [Nat.sub_mul];omega,k7,?_⟩;have:=congrArg (List.drop 2) k8;rw [zaQ,List.drop_append_of_le_length (by simp [FD]),show(FD w).drop 2=[] from rfl,zaU,zcr,zbC] at this;rw [this]
    congr 1
    omega
   obtain⟨H2,m1,G2,m3,m4⟩:=f7' (H.new (.blk 0 251 [I w.1,I w.2])) _ _ (zac _) (by rw [iC];exact hb) (λ_ _ _=> rfl) hfit;have e3:(gU t).set 1 (.maps .i64 2 (nC (Ai t) aB (l.flatMap FD)))=gU ⟨t.jQ,nC t.wait aB l⟩:=by
    rw [NC];rfl
   rw [show(List.map (λe=> (e.1,List.flatMap (λw=> [I w.1,I w.2]) e.2)) t.wait)=Ai t from rfl,e3] at G2;obtain⟨ro,o1,_,_,o2⟩:=G2.map aN (i:=0) rfl;have hb2:H2.base<=b:=by rw [m3.base,iC];exact hb
   obtain⟨H3,p1,G3,p3,p4⟩:=(o2 hb2).1 aB (I w.1);have j2:∀cs,upd (upd g H.next ([I w.1,I w.2].map .av)) q cs H.next=some ([I w.1,I w.2].map .av):=λcs=> by rw [aY hqn.symm,aN]
   have v1:=G2.load (j2 _) (i:=0) (x:=I w.1) rfl;rw [qB] at G3;have v2:=G3.load (j2 _) (i:=0) (x:=I w.1) rfl;have v3:=G3.load (j2 _) (i:=1) (x:=I w.2) rfl;refine⟨H3,?_,?_,((Step.new _ G.1).trans m3).trans p3⟩
   ·have hne:¬((l.length+1:Nat):Int)=0:=by omega
    have hbn:H.base<=H.next:=zas hb G.1
    simp only [FD] at s2;simp only [Nat.reduceAdd,aG,xq_,hq_,Sm,e1,e2,hne,f1,f2,s1,s2,hbn,f1',f2',sl,m1,o1,v1,p1,v2,v3,alh,zat,zaG]
   ·rw [zS (λn=> I n)] at G3;refine G3.sub ?_;exact((uf.refl g).more (G.isNone (zac _)) _).both q _
end
abbrev blw(n lo hi:Int):Bool:=decide (lo<=n) && decide (n < hi)
theorem abH(H:ah)(n lo hi:Int):cl 156 [I n,I lo,I hi] H=some (B (blw n lo hi),H):=by
 refine aX rfl rfl (aeb _ _ _ _ _ ?_);by_cases h:lo<=n
 ·simp only [xq_,MP,h,blw,zaI]
 ·simp only [xq_,MP,h,blw,zaL]
theorem ali(a b c:Bool):a=false∨(a=true/\b=false)∨(a=true/\b=true/\c=false)∨(a=true/\b=true/\c=true):=by revert a b c;decide
theorem Pkt.ok_eq(p:Pkt):p.ok=(blw p.src 0 6 && blw p.dst 0 6 && blw p.id 0 4096 && (blw p.bf 1 10 && blw p.aB 0 8 && blw p.ptr (-1) 6) && blw p.state 0 3 && !decide ((4:Int) < p.data.length)):=by
 have:decide (p.data.length<=4)=!decide ((4:Int) < p.data.length):=by
  by_cases h:p.data.length<=4
  ·have:¬(4:Int) < p.data.length:=by omega
   simp [h,this]
  ·have:(4:Int) < p.data.length:=by omega
   simp [h,this]
 unfold Pkt.ok;rw [this];simp only [blw,Bool.and_assoc]
theorem yV(H:ah)(p:Pkt):cl 118 [.agg p.av] H=some (I (if p.ok=true then 0 else 1),H):=by
 refine aV rfl rfl (adI _ _ _) ?_ dQ;have e1:=λH n lo hi=> abH H n lo hi;have e2:=λH=> (gI H p.data).lnS;rw [p.ok_eq];generalize a1:blw p.src 0 6=b1;generalize a2:blw p.dst 0 6=b2;generalize a3:blw p.id 0 4096=b3;generalize a4:blw p.bf 1 10=b4;generalize a5:blw p.aB 0 8=b5;generalize a6:blw p.ptr (-1) 6=b6;generalize a7:blw p.state 0 3=b7;by_cases h8:(4:Int) < p.data.length
 all_goals rcases ali b1 b2 b3 with rfl | ⟨rfl,rfl⟩ | ⟨rfl,rfl,rfl⟩ | ⟨rfl,rfl,rfl⟩
 all_goals rcases ali b4 b5 b6 with rfl | ⟨rfl,rfl⟩ | ⟨rfl,rfl,rfl⟩ | ⟨rfl,rfl,rfl⟩
 all_goals cases b7
 all_goals simp only [Nat.reduceLT,Int.reduceNeg,xq_,hq_,X5,aC,Pkt.av,e1,e2,a1,a2,a3,a4,a5,a6,a7,h8,zad,zaf,zaL,zbQ]
theorem Hq(H:ah)(k:Int):cl 44 [I k] H=some (B (Ef k),H):=by
 refine aV rfl rfl (anj _ _ _) ?_ dQ;by_cases h:1<=k
 ·simp only [xq_,afD,h,Ef,zaI]
 ·simp only [xq_,afD,h,Ef,zaL]
theorem NG(H:ah)(k:Int):cl 174 [I k] H=some (I (J5 k),H):=by
 refine aV rfl rfl (akQ _ _ _) ?_ dQ;by_cases h1:k=1
 ·simp only [Int.reduceEq,xq_,Bh,h1,J5]
 ·by_cases h2:k=2
  ·simp only [Int.reduceEq,xq_,Bh,og,h2,J5,true_or]
  ·by_cases h4:k=4
   ·simp only [Int.reduceEq,xq_,Bh,og,h4,J5,true_or,or_true]
   ·by_cases h5:k=5
    ·simp only [Int.reduceEq,xq_,Bh,og,h5,J5,or_true]
    ·by_cases h3:k=3
     ·simp only [Int.reduceEq,xq_,Bh,og,yQ,h3,J5,true_or,false_or]
     ·by_cases h6:k=6
      ·simp only [Int.reduceEq,xq_,Bh,og,yQ,h6,J5,or_true,false_or]
      ·simp only [xq_,Bh,og,yQ,h1,h2,h3,h4,h5,h6,J5,false_or]
theorem mJ(z:Int):((by8 z).toNat:Int)=z % 256:=by
 unfold by8;have h:(BitVec.ofInt 8 z).toNat=(z % ((2 ^ 8:Nat):Int)).toNat:=BitVec.toNat_ofInt z;have h2:(0:Int)<=z % 256:=zcF _ (by decide);rw [h,show((2 ^ 8:Nat):Int)=256 from rfl,zbl h2]
theorem Tj(z:Int):(AV.s (.int .u8 (IntKind.wrap .u8 z)))=Y (by8 z):=by
 show _=AV.s (.int .u8 ((by8 z).toNat:Int));rw [mJ,adt rfl];rfl
theorem aoj(H:ah)(f:Bool):cl0 119 [B f] H=some (Y (by8 (if f then 1 else 0)),H):=by
 refine iq (ajS _ _ _ ?_);cases f
 ·simp only [xq_,X6];rfl
 ·simp only [xq_,X6];rfl
def apK(H0 H:ah)(x:AV)(l:List AV):Prop:=
 (x=zN/\l=[])∨(∃r g ty,x=.sl r g 0 1 l.length l.length false/\H0.next<=r/\r < H.next/\H.get r=.blk g ty l)∨(∃r ty,x=.sl r 0 0 1 l.length l.length true/\H0.next<=r/\r < H.next/\H.get r=.blk 0 ty l)
structure Acc(H0 H:ah)(x:AV)(l:List AV):Prop where
 gro:Gro H0 H
 base:H.base<=H0.next
 x:apK H0 H x l
theorem Acc.is {H0 H:ah}{x:AV}{l:List AV}(a:Acc H0 H x l):aH H x 1 l.length l:=by
 refine⟨by omega,?_⟩;rcases a.x with⟨rfl,rfl⟩ | ⟨r,g,ty,rfl,h1,h2,h3⟩ | ⟨r,ty,rfl,h0',h1,h2⟩
 ·exact⟨rfl,rfl,rfl⟩
 ·exact⟨rfl,rfl,⟨h2,zac _⟩,ty,l,h3,by omega,by simp⟩
 ·exact⟨rfl,rfl,⟨h1,zac _⟩,ty,l,h2,by omega,by simp⟩
theorem Acc.one {H0 H:ah}{x:AV}{l:List AV}(a:Acc H0 H x l):One x:=by
 rcases a.x with⟨rfl,rfl⟩ | ⟨r,g,ty,rfl,h1,h2,h3⟩ | ⟨r,ty,rfl,h0',h1,h2⟩
 ·exact qC
 ·exact mZ
 ·exact mZ
theorem Acc.aok {H0 H H':ah}{x:AV}{l:List AV}(a:Acc H0 H x l)(g:Gro H H'):Acc H0 H' x l:=by
 refine⟨a.gro.trans g,by rw [g.base];exact a.base,?_⟩;rcases a.x with h | ⟨r,g',ty,h0,h1,h2,h3⟩ | ⟨r,ty,h0,h0',h1,h2⟩
 ·exact .inl h
 ·exact .inr (.inl ⟨r,g',ty,h0,h1,zau h2 g.next,by rw [g.same r h2];exact h3⟩)
 ·exact .inr (.inr ⟨r,ty,h0,h0',zau h1 g.next,by rw [g.same r h1];exact h2⟩)
theorem Gro.put {H0 H:ah}{r g ty:Nat}{xs:List AV}(G:Gro H0 H)(hr:H0.next<=r):Gro H0 (H.put r (.blk g ty xs)):=
 ⟨G.next,G.base,λx hx=> by
  have:(H.put r (.blk g ty xs)).get x=H.get x:=by simp only [ah.put];rw [if_neg (by omega)]
  rw [this];exact G.same x hx,λh x k es=> by
  simp only [ah.put];split
  ·simp
  ·exact G.MZ h x k es⟩
theorem Acc.app {H0 H:ah}{x:AV}{l:List AV}(a:Acc H0 H x l){e by_ n:Nat}{y:AV}{new:List AV}(hy:aH H y 1 n new)(hc:new.all AV.aU=true)(hn:n≠0)(hs:l.length+n < 1000)(hby:by_<=16):
  ∃x' H',app e 1 by_ x y H=some (x',H')/\Acc H0 H' x' (l++new):=by
 have hnew:new.length=n:=by have:=hy.1;omega
 obtain⟨c1,c2⟩:=hy.AX;have hb1:n*by_<=most:=by
  have:n*by_<=1000*16:=zdu (by omega) hby;unfold most;omega
 have hb2:(l.length+n)*by_<=most:=by
  have:(l.length+n)*by_<=1000*16:=zdu (by omega) hby;unfold most;omega
 have hm1:n<=most:=by unfold most;omega
 have hm2:l.length+n<=most:=by unfold most;omega
 rcases a.x with⟨rfl,rfl⟩ | ⟨r,g,ty,rfl,h1,h2,h3⟩ | ⟨r,ty,rfl,h0',h1,h2⟩
 ·refine⟨_,_,afe hy hc hn hm1 hb1,a.gro.trans (Gro.new _ _ _ _),by rw [iC];exact a.base,.inr (.inl ⟨H.next,0,e+fQ,?_,a.gro.next,by rw [dL];omega,?_⟩)⟩
  ·simp only [zaU,hnew]
  ·rw [aJ rfl,zaU]
 ·refine⟨.sl r (g+1) 0 1 (l.length+n) (l.length+n) false,H.put r (.blk (g+1) (grT e ty 0) (l++new)),?_,a.gro.put h1,a.base,.inr (.inl ⟨r,g+1,grT e ty 0,?_,h1,h2,?_⟩)⟩
  ·simp only [Proofs.YtmdbbfoefdjgoaaGreat.app,c1,c2];unfold dJ;rw [if_pos ⟨hy.1,hc⟩];simp only [h3];rw [if_pos ⟨trivial,trivial,by omega⟩,if_neg hn,if_neg (by omega),if_pos ⟨hm2,hb2⟩];simp only [zal,if_false,zaO];rw [if_pos (zas a.base h1)];simp
  ·simp only [zaq,hnew]
  ·simp only [ah.put,if_true]
 ·refine⟨.sl H.next 0 0 1 (l.length+n) (l.length+n) false,H.new (.blk 0 (e+fQ) (l++new)),?_,a.gro.trans (Gro.new _ _ _ _),by rw [iC];exact a.base,.inr (.inl ⟨H.next,0,e+fQ,?_,a.gro.next,by rw [dL];omega,aJ rfl⟩)⟩
  ·simp only [Proofs.YtmdbbfoefdjgoaaGreat.app,c1,c2];unfold dJ;rw [if_pos ⟨hy.1,hc⟩];simp only [h2];rw [if_pos ⟨trivial,trivial,by omega⟩,if_neg hn,if_neg (by omega),if_pos ⟨hm2,hb2⟩];simp
  ·simp only [zaq,hnew]
theorem YX(n:Int):∀k,k < 8->(pq n).drop (8 - (k+1))=by8 (n.fdiv (2 ^ (8*k)))::(pq n).drop (8 - k)
 | 0,_ | 1,_ | 2,_ | 3,_ | 4,_ | 5,_ | 6,_ | 7,_=> rfl
 | k+8,h=> absurd h (by omega)
theorem aol(H:ah)(hb:H.base<=H.next)(n:Int):∃y H',cl0 120 [I n] H=some (y,H')/\Acc H H' y ((pq n).map Y):=by
 have key:∀k:Nat,k<=8->∀(x:AV) (K:ah) (l:List By),Acc H K x (l.map Y)->l.length+k=8->∃y H',Ce cl0 [I n,x,I (8*(k:Int) - 8)] K=some (y,H')/\Acc H H' y ((l++(pq n).drop (8 - k)).map Y):=by
  intro k
  induction k with
  | zero=>
   intro hk x K l a hl;have h1:¬((0:Int)<=8*((0:Nat):Int) - 8):=by omega
   refine⟨x,K,?_,by rw [show(pq n).drop (8 - 0)=[] from rfl,zbb];exact a⟩;rw [RY];simp only [xq_,h1]
  | succ k ih=>
   intro hk x K l a hl;have h0:8*((k+1:Nat):Int) - 8=((8*k:Nat):Int):=by omega
   have h1:(0:Int)<=((8*k:Nat):Int):=by omega
   have e1:bi .shr 3 (I n) (I ((8*k:Nat):Int))=some (I (n.fdiv (2 ^ (8*k)))):=by
    have:=P5 (P:=Tryz.prog) (t:=3) (k:=.i64) (k':=.i64) (a:=n) h1;rw [zao,show min (8*k) (IntKind.bits .i64)=8*k from zbq (show 8*k<=64 by omega)] at this;exact this
   have e2:cv 3 5 (I (n.fdiv (2 ^ (8*k)))) K=some (Y (by8 (n.fdiv (2 ^ (8*k)))),K):=by rw [<-Tj];exact acX
   obtain⟨c,hc⟩:∃c,by8 (n.fdiv (2 ^ (8*k)))=c:=⟨_,rfl⟩
   rw [hc] at e2;have b1:bs 158 1 [(0,Y c)] K=some (.sl K.next 0 0 1 1 1 true,K.new (.blk 0 5 [Y c])):=(Rz (by decide)).trans (gZ rfl rfl rfl);have a1:=a.aok (Gro.new K 0 5 [Y c]);obtain⟨x',K',p1,a2⟩:=a1.app (e:=5) (by_:=1) (n:=1) (jI (e:=5) (H:=K) (ex:=true) (n:=1) (m:=1) (l:=[Y c]) rfl) rfl (by decide) (by simp;omega) (by decide);have h2:((8*k:Nat):Int) - 8=8*(k:Int) - 8:=by omega
   have w:=wrap_i64 (a:=8*(k:Int) - 8) (by omega) (by omega);obtain⟨y,H',r1,r2⟩:=ih (by omega) x' K' (l++[c]) (by simpa using a2) (by simp;omega);refine⟨y,H',?_,?_⟩
   ·rw [RY,h0];simp only [xq_,h1,e1,e2,b1,p1,ku,h2,w,r1]
   ·rw [YX n k (by omega),hc]
    simpa using r2
 obtain⟨y,H',r1,r2⟩:=key 8 (zac _) zN H [] ⟨Gro.refl H,hb,.inl ⟨rfl,rfl⟩⟩ rfl;refine⟨y,H',iq (ajT _ _ _ ?_),by simpa using r2⟩;have:(8*((8:Nat):Int) - 8)=56:=rfl;rw [this] at r1;simp only [adK,r1]
theorem Hr {z:AV}:∀(rest pre:List AV),(∀x∈rest,One x)->fJ (λi=> some (i*1,1)) (pre++dI [z] rest.length) ((rest.zipIdx pre.length).map λp=> (p.2,p.1))=some (pre++rest)
 | [],pre,_=> by simp [dI,dH]
 | x::rest,pre,h=> by
  rw [List.zipIdx_cons,zaC,Ee (off:=pre.length) (by simp) (h x (by simp)).1 (by simp [dI])];have e:(pre++dI [z] (x::rest).length).set pre.length x=(pre++[x])++dI [z] rest.length:=by
   show(pre++([z]++dI [z] rest.length)).set pre.length x=_;rw [List.set_append_right _ _ (zac _),Nat.sub_self];simp
  rw [e];have ih:=Hr (z:=z) rest (pre++[x]) λy hy=> h y (by simp [hy]);rw [zaq,zah,zam,za5] at ih;rw [ih];simp
theorem abI {e:Nat}{z:AV}{l:List AV}{H:ah}(h:∀x∈l,One x):bsl e 1 [z] l.length ((l.zipIdx 0).map λp=> (p.2,p.1)) H=some (.sl H.next 0 0 1 l.length l.length true,H.new (.blk 0 e l)):=by
 have:=Hr (z:=z) l [] h;simp only [zaU,zam] at this;unfold bsl;rw [this];have ha:l.all AV.aU=true:=zaZ.2 λx hx=> (h x hx).2;simp only [ha,if_true]
theorem alj(H:ah)(n lo hi:Int):cl0 156 [I n,I lo,I hi] H=some (B (blw n lo hi),H):=by
 refine iq (aeb _ _ _ _ _ ?_);by_cases h:lo<=n
 ·simp only [xq_,MP,h,blw,zaI]
 ·simp only [xq_,MP,h,blw,zaL]
theorem alk(H:ah)(p:Pkt){x:AV}(hx:jR H x p.data)(hok:p.ok=true):cl0 118 [.agg (p.avx x)] H=some (I 0,H.new (.blk 0 99 (p.avx x))):=by
 refine iq (adI _ _ _ ?_);have e1:=λH n lo hi=> alj H n lo hi;have e2:=(hx.is.new (.blk 0 99 (p.avx x))).lnS;rw [p.ok_eq] at hok;generalize a1:blw p.src 0 6=b1 at hok;generalize a2:blw p.dst 0 6=b2 at hok;generalize a3:blw p.id 0 4096=b3 at hok;generalize a4:blw p.bf 1 10=b4 at hok;generalize a5:blw p.aB 0 8=b5 at hok;generalize a6:blw p.ptr (-1) 6=b6 at hok;generalize a7:blw p.state 0 3=b7 at hok;simp only [zaj] at hok;obtain⟨⟨⟨⟨⟨rfl,rfl⟩,rfl⟩,⟨⟨rfl,rfl⟩,rfl⟩⟩,rfl⟩,a8⟩:=hok;have h8:¬(4:Int) < p.data.length:=by simpa using a8
 have ax:=C9 (p:=p) hx.one;simp only [Pkt.avx] at e2 ax ⊢;simp only [Nat.reduceLT,Int.reduceNeg,xq_,hq_,X5,aC ax,e1,e2,a1,a2,a3,a4,a5,a6,a7,h8,zad]
theorem oU:∀l:List Int,(l.flatMap pq).length=l.length*8
 | []=> rfl
 | v::l=> by rw [zaQ,zaq,oU l,iZ,zah];omega
theorem alm {H:ah}(hb:H.base<=H.next)(p:Pkt){x:AV}(hx:jR H x p.data)(hok:p.ok=true):
  ∃y H',cl0 75 [.agg (p.avx x)] H=some (.tup [y,I 0],H')/\Gro H H'/\bU H' y (qH p)/\H'.base<=H'.next:=by
 have hok2:=hok;simp only [Pkt.ok,zaj,decide_eq_true_eq] at hok2;have ax:=C9 (p:=p) hx.one;let o:fD:=.blk 0 99 (p.avx x);let H1:=H.new o;let H2:=H1.new o;have g1:Gro H H1:=Gro.new H 0 _ _;have g2:Gro H1 H2:=Gro.new H1 0 _ _;have hb2:H2.base<=H2.next:=by simp only [H2,H1,iC,dL];omega
 have ck:=alk H1 p (hx.new o) hok;have at1:H1.get H.next=.blk 0 99 (p.avx x):=aJ rfl
 have at2:H2.get H.next=.blk 0 99 (p.avx x):=by rw [g2.same _ (by simp only [H1,dL];omega)];exact at1
 have lx:(p.avx x).length=9:=rfl;have l1:lda 9 (.ref H.next 0 0) H1=some (.agg (p.avx x),H1):=(fO (off:=0) (n:=9) at1 (by rw [lx];exact zac _)).trans rfl;have lds:∀i v,(p.avx x)[i]?=some v->ld (.ref H.next 0 i) H2=some (v,H2):=λi v hv=> by rw [dR at2,hv];rfl
 have p0:=lds 0 (I p.bf) rfl;have p1:=lds 1 (I p.src) rfl;have p2:=lds 2 (I p.dst) rfl;have p3:=lds 3 (I p.id) rfl;have p4:=lds 4 (I p.aB) rfl;have p5:=lds 5 (I p.ptr) rfl;have p6:=lds 6 (I p.state) rfl;have p7:=lds 7 (B p.flag) rfl;have p8:=lds 8 x rfl;have cv1:∀z H,cv 3 5 (I z) H=some (Y (by8 z),H):=λz H=> by rw [<-Tj];exact acX
 have sh1:bi .shr 3 (I p.id) (.s (.int .u64 8))=some (I (p.id.fdiv 256)):=P5 (P:=Tryz.prog) (t:=3) (k:=.i64) (k':=.u64) (a:=p.id) (n:=8) (by decide);have w1:=wrap_i64 (a:=p.ptr+1) (by omega) (by omega);have fl:=λH=> aoj H p.flag;have hx2:=(hx.new o).new o;have ln2:=hx2.is.lnS;let hd:List By:=[by8 p.bf,by8 p.src,by8 p.dst,by8 (p.id.fdiv 256),by8 p.id,by8 p.aB,by8 (p.ptr+1),by8 p.state,by8 (if p.flag then 1 else 0),by8 p.data.length]
 have bsH:bs 158 10 [(0,Y (by8 p.bf)),(1,Y (by8 p.src)),(2,Y (by8 p.dst)),(3,Y (by8 (p.id.fdiv 256))),(4,Y (by8 p.id)),(5,Y (by8 p.aB)),(6,Y (by8 (p.ptr+1))),(7,Y (by8 p.state)),(8,Y (by8 (if p.flag then 1 else 0))),(9,Y (by8 p.data.length))] H2=some (.sl H2.next 0 0 1 10 10 true,H2.new (.blk 0 5 (hd.map Y))):=
  (Rz (by decide)).trans (abI (l:=hd.map Y) λy hy=> by
   obtain⟨c,_,rfl⟩:=zaS.1 hy;exact af2)
 let H3:=H2.new (.blk 0 5 (hd.map Y));have g3:Gro H2 H3:=Gro.new H2 0 _ _;have l3:ld (.ref H.next 0 8) H3=some (x,H3):=by
  rw [dR (by rw [g3.same _ (by simp only [H2,H1,dL];omega)];exact at2)];rfl
 have ln3:=(hx2.new (.blk 0 5 (hd.map Y))).is.lnS;have acc0:Acc H2 H3 (.sl H2.next 0 0 1 10 10 true) (hd.map Y):=⟨g3,by simp only [H3,iC];exact hb2,.inr (.inr ⟨H2.next,5,rfl,zac _,by simp only [H3,dL];omega,aJ rfl⟩)⟩
 have key:∀k i,i+k=p.data.length->∀a K,Acc H2 K a ((hd++(p.data.take i).flatMap pq).map Y)->
   ∃y H',Jp cl0 [a,x,I p.data.length,I i] K=some (.tup [y,I 0],H')/\Gro H2 H'/\bU H' y (qH p)/\H'.base<=H'.next:=by
  intro k
  induction k with
  | zero=>
   intro i hi a K ac;have h1:¬((i:Int) < p.data.length):=by omega
   rw [zaE (by omega)] at ac;have hlen:(eG p).length < 900:=by
    have h2:=pW p;unfold qH jh at h2;simp only [zaq,zah,zam,Pkt.bytes] at h2;omega
   have hbK:K.base<=K.next:=zas ac.base ac.gro.next
   have bK:bU K a (eG p):=by
    have:=ac.is;rw [zax] at this;exact⟨this,by omega⟩
   obtain⟨y,H',e1,g',b',hb'⟩:=af4 hbK bK hlen;refine⟨y,H',?_,ac.gro.trans g',b',hb'⟩;rw [XM];simp only [xq_,h1,e1]
  | succ k ih=>
   intro i hi a K ac;have h1:(i:Int) < p.data.length:=by omega
   have h6:(i:Int)+1=((i+1:Nat):Int):=by omega
   have h7:=wrap_i64 (a:=((i+1:Nat):Int)) (by omega) (by omega);obtain⟨v,hv⟩:∃v,p.data[i]?=some v:=⟨_,zab (by omega)⟩
   have hxK:=hx2.is.fV ac.gro.next λr _ hr=> ac.gro.same r hr
   have s1:=hxK.ix (k:=.i64) (i:=(i:Int)) (by omega) h1;rw [zao] at s1;have s2:ld (dW x i) K=some (I v,K):=by rw [hxK.ld (by omega),zaD,hv];rfl
   have hbK:K.base<=K.next:=zas ac.base ac.gro.next
   obtain⟨y,K1,e1,aw⟩:=aol K hbK v;have ac1:=ac.aok aw.gro;have hy:=aw.is;have hlt:(p.data.take i).length=i:=by rw [zav];omega
   obtain⟨a2,K2,e2,ac2⟩:=ac1.app (e:=5) (by_:=1) (n:=8) (by have h:=hy;rw [zax,iZ] at h;exact h) (aa3 _) (by decide) (by
    simp only [zax,zaq];have:((p.data.take i).flatMap pq).length=i*8:=by rw [oU,hlt]
    rw [this];simp only [hd,zah,zam];omega) (by decide)
   have hap:((hd++(p.data.take i).flatMap pq).map Y)++(pq v).map Y=(hd++(p.data.take (i+1)).flatMap pq).map Y:=by
    rw [zc9,hv];simp
   rw [hap] at ac2;obtain⟨y',H',r1,r2,r3,r4⟩:=ih (i+1) (by omega) a2 K2 ac2;refine⟨y',H',?_,r2,r3,r4⟩;rw [XM];simp only [xq_,h1,s1,s2,e1,e2,bI,h6,h7,r1]
 obtain⟨y,H',r1,r2,r3,r4⟩:=key p.data.length 0 (by omega) _ H3 (by simpa using acc0);refine⟨y,H',iq (anJ _ _ _ ?_),(g1.trans g2).trans r2,r3,r4⟩;have z0:((0:Nat):Int)=0:=rfl;rw [z0] at r1;simp only [H1,H2,H3,o,dL] at ck l1 p0 p1 p2 p3 p4 p5 p6 p7 p8 ln2 bsH l3 ln3 r1;simp only [Nat.reduceLT,xq_,ajg,aC ax,l1,ck,p0,p1,p2,p3,p4,p5,p6,p7,p8,cv1,sh1,bI,w1,fl,ln2,bsH,l3,ln3,zad,r1]
def nmS(s:BitVec 64)(l:List By):BitVec 64:=l.foldl (λs c=> (s <<< 8) ||| c.setWidth 64) s
def nmV(l:List By):Int:=(nmS 0#64 l).toInt
theorem U2(s:BitVec 64):IntKind.wrap .i64 (s.toNat:Int)=s.toInt:=by
 have h:=s.isLt;simp only [IntKind.wrap,IntKind.bits,IntKind.signed,BitVec.toInt_eq_toNat_cond,zaI,decide_eq_true_eq,ge_iff_le];split <;> split <;> omega
theorem agm {H:ah}{y:AV}{l:List By}(hx:bU H y l):cl0 124 [y] H=some (I (nmV l),H):=by
 have key:∀(k i:Nat),i+k=l.length->∀s:BitVec 64,Ci cl0 [U64 s,y,I l.length,I i] H=some (I (nmS s (l.drop i)).toInt,H):=by
  intro k
  induction k with
  | zero=>
   intro i hi s;have h1:¬((i:Int) < l.length):=by omega
   have e1:cv 242 3 (U64 s) H=some (I s.toInt,H):=by rw [<-U2];exact aaS (k:=.u64)
   rw [Si,zaF (by omega)];simp only [xq_,h1,e1]
   try rfl
  | succ k ih=>
   intro i hi s;have h1:(i:Int) < l.length:=by omega
   have h6:(i:Int)+1=((i+1:Nat):Int):=by omega
   have h7:=wrap_i64 (a:=((i+1:Nat):Int)) (by have:=hx.small;omega) (by have:=hx.small;omega);obtain⟨c,hc⟩:∃c,l[i]?=some c:=⟨_,zab (by omega)⟩
   have s1:=hx.ix (i:=i) (by omega);have s2:=hx.ld hc;have e1:cv 5 242 (Y c) H=some (U64 (c.setWidth 64),H):=
    (aaQ (k:=.u8) (n:=(c.toNat:Int)) (H:=H)).trans (congrArg (λv=> some (v,H)) (aiq (k:=.u8) (k':=.u64) rfl c))
   have e2:bi .shl 242 (U64 s) (.s (.int .u64 8))=some (U64 (s <<< 8)):=Xy (k:=.u64) rfl s 8 (by decide) (by decide);have e3:bi .or 242 (U64 (s <<< 8)) (U64 (c.setWidth 64))=some (U64 ((s <<< 8) ||| c.setWidth 64)):=apj (k:=.u64) rfl _ _;have hd:l.drop i=c::l.drop (i+1):=by
    rw [zaR (by omega)];rw [zab (by omega)] at hc;rw [zaX hc]
   have ih1:=ih (i+1) (by omega) ((s <<< 8) ||| c.setWidth 64);have e5:nmS s (c::l.drop (i+1))=nmS ((s <<< 8) ||| c.setWidth 64) (l.drop (i+1)):=rfl;rw [Si,hd,e5,<-ih1];simp only [xq_,h1,s1,s2,e1,e2,e3,bI,h6,h7]
   try rfl
 refine iq (ajW _ _ _ ?_);have s0:=hx.is.lnS;have k0:=key l.length 0 (by omega) 0#64;rw [zaO] at k0;simp only [xq_,adO,s0];exact k0
theorem or8 {s:BitVec 64}(c:By)(h:s.toNat < 2 ^ 56):((s <<< 8) ||| c.setWidth 64).toNat=s.toNat*256+c.toNat:=by
 have hc:=c.isLt;have h1:(s <<< 8).toNat=s.toNat <<< 8:=by
  rw [BitVec.toNat_shiftLeft,zct];rw [zdj];omega
 have h2:(c.setWidth 64).toNat=c.toNat:=by rw [BitVec.toNat_setWidth,zct (by omega)]
 rw [BitVec.toNat_or,h1,h2,<-Nat.shiftLeft_add_eq_or_of_lt hc,zdj]
theorem ql {N b:Nat}{s:BitVec 64}{c:By}(hs:s.toNat=N / (b*256))(hc:c.toNat=N / b % 256)(hN:N < 2 ^ 64)(hb:0 < b):((s <<< 8) ||| c.setWidth 64).toNat=N / b:=by
 have h0:N / (b*256)=N / b / 256:=(Nat.div_div_eq_div_mul N b 256).symm;have h1:N / b<=N:=Nat.div_le_self N b;rw [or8 c (by rw [hs,h0];omega),hs,hc,h0];omega
theorem YZ(n:Int)(j:Nat)(hj:j+8<=64):(n / 2 ^ j) % 256=((n % 18446744073709551616) / 2 ^ j) % 256:=by
 have h64:(18446744073709551616:Int)=2 ^ j*2 ^ (64 - j):=by
  rw [<-Int.pow_add,show j+(64 - j)=64 by omega];rfl
 have h256:(2:Int) ^ (64 - j)=256*2 ^ (56 - j):=by
  rw [show 64 - j=8+(56 - j) by omega,Int.pow_add];rfl
 have hne:(2:Int) ^ j≠0:=Int.pow_ne_zero (by decide);have hq:n=n % 18446744073709551616+2 ^ j*(2 ^ (64 - j)*(n / 18446744073709551616)):=by
  rw [<-Int.mul_assoc,<-h64];exact(Int.emod_add_mul_ediv n 18446744073709551616).symm
 obtain⟨r,hr⟩:∃r,n % 18446744073709551616=r:=⟨_,rfl⟩
 obtain⟨q,hqq⟩:∃q,n / 18446744073709551616=q:=⟨_,rfl⟩
 rw [hr,hqq] at hq;rw [hr,hq,Int.add_mul_ediv_left _ _ hne,h256,Int.mul_assoc,Int.add_mul_emod_self_left]
theorem Y0(n:Int)(k:Nat)(hk:k < 8){N:Nat}(hN:(N:Int)=n % 18446744073709551616):(by8 (n.fdiv (2 ^ (8*k)))).toNat=N / 2 ^ (8*k) % 256:=by
 have h:=mJ (n.fdiv (2 ^ (8*k)));have hp:(0:Int)<=2 ^ (8*k):=Int.pow_nonneg (by decide);rw [zbO _ hp] at h ⊢;rw [YZ n (8*k) (by omega),<-hN] at h;have h2:((N:Int) / 2 ^ (8*k)) % 256=((N / 2 ^ (8*k) % 256:Nat):Int):=by
  rw [Int.natCast_emod,Int.natCast_ediv,Int.natCast_pow];rfl
 rw [h2] at h;exact Int.ofNat_inj.1 h
theorem JJ {n:Int}(h:I64 n):nmV (pq n)=n:=by
 obtain⟨h1,h2⟩:=h;obtain⟨N,hN⟩:∃N:Nat,(N:Int)=n % 18446744073709551616:=⟨(n % 18446744073709551616).toNat,zbl (zcF _ (by decide))⟩
 have hlt:N < 2 ^ 64:=by omega
 have w:=λk hk=> Y0 n k hk hN;have s7:=ql (N:=N) (b:=2 ^ 56) (s:=0#64) (by rw [Nat.div_eq_of_lt (by omega)];rfl) (w 7 (by decide)) hlt (by decide);have s6:=ql (b:=2 ^ 48) s7 (w 6 (by decide)) hlt (by decide);have s5:=ql (b:=2 ^ 40) s6 (w 5 (by decide)) hlt (by decide);have s4:=ql (b:=2 ^ 32) s5 (w 4 (by decide)) hlt (by decide);have s3:=ql (b:=2 ^ 24) s4 (w 3 (by decide)) hlt (by decide);have s2:=ql (b:=2 ^ 16) s3 (w 2 (by decide)) hlt (by decide);have s1:=ql (b:=2 ^ 8) s2 (w 1 (by decide)) hlt (by decide);have s0:=ql (b:=1) s1 (w 0 (by decide)) hlt (by decide);have e:(nmS 0#64 (pq n)).toNat=N / 1:=s0;unfold nmV;rw [BitVec.toInt_eq_toNat_cond,e];split <;> omega
theorem sS {a b:Int}(h:by8 a=by8 b):a % 256=b % 256:=by
 have:=congrArg (λc:By=> (c.toNat:Int)) h;simp only [mJ] at this;exact this
theorem NH:∀{l m:List Int},(∀v∈l,I64 v)->(∀v∈m,I64 v)->l.flatMap pq=m.flatMap pq->l=m
 | [],[],_,_,_=> rfl
 | [],b::m,_,_,h=> by have:=congrArg List.length h;rw [oU,oU] at this;simp at this
 | a::l,[],_,_,h=> by have:=congrArg List.length h;rw [oU,oU] at this;simp at this
 | a::l,b::m,hl,hm,h=> by
  rw [zaQ,zaQ] at h;obtain⟨h1,h2⟩:=List.append_inj h rfl;have h3:=congrArg nmV h1;rw [JJ (hl a (by simp)),JJ (hm b (by simp))] at h3;rw [h3,NH (λv hv=> hl v (by simp [hv])) (λv hv=> hm v (by simp [hv])) h2]
theorem abJ {p q:Pkt}(hp:p.fit)(hq:q.fit)(h:qH p=qH q):p=q:=by
 unfold qH jh at h;have hlen:(eG p).length=(eG q).length:=by
  have:=congrArg List.length h;simp only [zaq,zah,zam] at this;omega
 obtain⟨h1,_⟩:=List.append_inj h hlen;unfold eG at h1;obtain⟨h2,h3⟩:=List.append_inj h1 rfl;have hd:=NH hp.num hq.num h3;have a:=hp.ok;have b:=hq.ok;simp only [Pkt.ok,zaj,decide_eq_true_eq] at a b;simp only [zbJ,and_true] at h2;obtain⟨e1,e2,e3,e4,e5,e6,e7,e8,e9,_⟩:=h2;have i1:=sS e1;have i2:=sS e2;have i3:=sS e3;have i4:=sS e4;have i5:=sS e5;have i6:=sS e6;have i7:=sS e7;have i8:=sS e8;have i9:=sS e9;rw [zbO _ (by decide),zbO _ (by decide)] at i4;rcases p with⟨p1,p2,p3,p4,p5,p6,p7,p8,p9⟩
 rcases q with⟨q1,q2,q3,q4,q5,q6,q7,q8,q9⟩
 simp only at*;have f8:p8=q8:=by
  cases p8 <;> cases q8 <;> first | rfl | (simp at i9)
 subst hd;subst f8;have:p1=q1/\p2=q2/\p3=q3/\p4=q4/\p5=q5/\p6=q6/\p7=q7:=by omega
 obtain⟨rfl,rfl,rfl,rfl,rfl,rfl,rfl⟩:=this;rfl
end
end Go.Proofs.YtmdbbfoefdjgoaaGreat
