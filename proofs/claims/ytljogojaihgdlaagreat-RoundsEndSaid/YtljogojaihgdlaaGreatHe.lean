/-
  Own work: an interpreter over named blocks, its soundness, and what the functions of this seat compute (part 5 of 12).
  Conditions: those of the statement alone.
-/
import Derived.Test.YtljogojaihgdlaaGreatHd
set_option linter.all false
set_option linter.unusedSectionVars false
set_option linter.unusedVariables false
set_option linter.unusedSimpArgs false
namespace Go.Proofs.YtljogojaihgdlaaGreat
noncomputable section
def aeF(c:Cfg)(dJ:Rows)(n:Int)(r:Row):(EP c dJ).set 8 (.map .i64 (L6 (Z8 (λr=>.agg r.av) dJ) n (.agg r.av)))=EP c (mM dJ n r):=by
 have:=Ip (f:=λr:Row=>AV.agg r.av) dJ n r;rw [this];rfl
def abC(H:ah)(hb:H.base<=H.next)(c:Cfg)(h:c.ok=true)(me:Int):∃H' q,cl 70 [.agg c.av,I me] H=some (.ref q 0 0,H')/\Made H H' (upd qE q (EP c (c.jP me c.aY.toNat))):=by
 have B:=uK h;let Hb:=H.new (.blk 0 26 c.av);let Hm:=Hb.new (.map .i64 []);let H0:=Hm.new (.blk 0 196 (c.av++[.mp (H.next+1)]));have M0:Made Hb H0 (upd qE (H.next+2) (EP c [])):=by
  refine Rf (H':=Hm) (by simp only [Hb,eX];omega) (by simp only [Hm,Hb,eX]) rfl (λr hr=>bJ hr) (by rw [zbj,fD];rfl) (by simp [EP]) (λr=>if r=H.next+1 then some 8 else none) λi cc x hc hx=>?_;by_cases hi:i<8
  ·left;simp only [EP] at hc;rw [zaJ (by simp [Cfg.av];omega),zaH] at hc;rw [zaJ (by simp [Cfg.av];omega)] at hx;rw [hx] at hc;exact(zaX hc).symm
  ·have:i=8:=by
    have:=(zae.1 hx).1;simp [Cfg.av] at this;omega
   subst this;right;right;cases hc;cases hx;exact⟨H.next+1,.i64,rfl,by simp only [Hb,eX];omega,by omega,by simp,aZ (by simp only [Hb,eX]),.inl rfl⟩
 have key:∀k i,i+k=c.aY.toNat->∀Hi,Made Hb Hi (upd qE (H.next+2) (EP c (c.jP me i)))->∃H',Ol cl [I me,.ref H.next 0 0,.ref (H.next+2) 0 0,I c.aY,I i] Hi=some (.ref (H.next+2) 0 0,H')/\Made Hb H' (upd qE (H.next+2) (EP c (c.jP me c.aY.toNat))):=by
  intro k
  induction k with
  |zero=>
   intro i hi Hi M;have h1:¬(i:Int)<c.aY:=by omega
   rw [aaJ];refine⟨Hi,?_,by rw [show c.aY.toNat=i by omega];exact M⟩;simp only [Int.reduceNeg,xq_,h1]
  |succ k ih=>
   intro i hi Hi M;have h1:(i:Int)<c.aY:=by omega
   have hbx:Hi.get H.next=.blk 0 26 c.av:=by rw [M.same _ (by simp only [Hb,eX];omega)];exact aZ rfl
   have hbn:H.next<Hi.next:=zay (by simp only [Hb,eX];omega) M.next
   have e1:lda 8 (.ref H.next 0 0) Hi=some (.agg c.av,Hi):=(iH (off:=0) (n:=8) hbx (zac 8)).trans rfl;have e2:=IW Hi c h i;have h6:(i:Int)+1=((i+1:Nat):Int):=by omega
   have h7:=wrap_i64 (a:=((i+1:Nat):Int)) (by have:=B.aY;omega) (by have:=B.aY;omega);have tail:∀Hj,Made Hb Hj (upd qE (H.next+2) (EP c (c.jP me (i+1))))->∃H',Om cl (I me) (.ref H.next 0 0) (.ref (H.next+2) 0 0) (I c.aY) (I i) Hj=some (.ref (H.next+2) 0 0,H')/\Made Hb H' (upd qE (H.next+2) (EP c (c.jP me c.aY.toNat))):=by
    intro Hj Mj;obtain⟨H',a1,a2⟩:=ih (i+1) (by omega) Hj Mj;refine⟨H',?_,a2⟩;simp only [xq_,Om,cZ,h6,h7,a1]
   rw [aaJ];by_cases hm:c.bf i=me
   ·obtain⟨r,f1,f2,f3,f4⟩:=M.good.map (q:=H.next+2) aQ (i:=8) rfl;obtain⟨H',g1,g2,g3,g4⟩:=(f4 (by rw [M.base];simp only [Hb,jB,eX];omega)).1 i (.agg (Row.av ⟨0,-1,c.first i⟩));simp only [Row.av] at g1;have e3:=aeE Hi.guard c h i (by omega) h1;have Mj:Made Hb H' (upd qE (H.next+2) (EP c (c.jP me (i+1)))):=by
     refine(M.step g2 g3).as ?_;rw [qw,aeF];simp only [Cfg.jP,hm,if_true]
    obtain⟨H2,t1,t2⟩:=tail H' Mj;refine⟨H2,?_,t2⟩;simp only [Int.reduceNeg,Nat.reduceAdd,aO,xq_,hq_,h1,e1,e2,hm,f1,e3,alz,jf,fK,agc,g1,t1]
   ·have hm':¬(c.bf i=me):=hm;obtain⟨H2,t1,t2⟩:=tail Hi (M.as (by simp only [Cfg.jP,hm,if_false]));refine⟨H2,?_,t2⟩;simp only [Int.reduceNeg,xq_,h1,e1,e2,hm,t1]
 obtain⟨H',a1,a2⟩:=key c.aY.toNat 0 (by omega) H0 M0;refine⟨H',H.next+2,bC rfl rfl (arM _ _ _ _ (r:=(_,H')) ?_),a2.zy⟩;have l1:c.av[1]?=some (I c.aY):=rfl;have e:∀r,bd 196 [(0,.agg c.av),(1,.mp r)]=some (.agg (c.av++[.mp r])):=λr=>by
  simp only [xq_,aly,jf,fK,agb,Cfg.av,fA];rfl
 have e2:∀r,(c.av++[AV.mp r]).all AV.aP=true:=λr=>by rw [zbj,fD];rfl
 simp only [Nat.reduceLT,xq_,hq_,amP,aG (fD c),e,aG (e2 _),l1];exact a1
def jU {b n:Nat}{H1:ah}{g g':bD}{q:Nat}{cs:List Cell}(G:Good b H1 g)(h:g q=some cs)(d:H1.next=n):cup n g g' q=some cs:=by
 unfold cup;rw [if_pos (by have:=G.lt h;omega),h]
def lZ {b n:Nat}{H1:ah}{g g':bD}{q:Nat}{cs:List Cell}(G:Good b H1 g')(h:g' q=some cs)(d:n<=b):cup n g g' q=some cs:=by
 unfold cup;rw [if_neg (by have:=G.le h;omega),h]
def drawn {H H':ah}{x:Option (AV × ah)}{v:AV}{g:bD}(e:x=some (v,H'))(M:Made H.guard H' g):∃b,unG H x=some (v,b)/\Made H b g:=
 ⟨_,by rw [e];rfl,M.aev⟩
def jJ {H:ah}{r:Nat}{ty:TypeId}{c:Cfg}(h:H.get r=.blk 0 ty c.av):lda 8 (.ref r 0 0) H=some (.agg c.av,H):=(iH (off:=0) (n:=8) h (zac 8)).trans rfl
def aN.abD {P:Program}{t e:TypeId}(h:P.underlying t=some (.slice e)){H:ah}{x:AV}{m n:Nat}{cells:List AV}(d:aN H x m n cells)(i:n≠0):qH P .eql t x (.s (.slice none 0 0))=some (B false):=by
 obtain⟨_,d⟩:=d;cases x with
 |sl r g o m n c ex=>exact KQ h
 |vs n m l=>exact yw h
 |s v=>
  cases v with
  |slice a b c=>
   cases a with
   |none=>exact absurd d.2.2 i
   |some a=>exact d.elim
  |_=>exact d.elim
 |_=>exact d.elim
def ER(d t:Nat)(c:Cfg)(me:Int):List Cell:=[.av (.ref d 0 0),.av (.ref t 0 0)]++c.av.map .av++[.av (I me)]
def oL(g:bD)(q d t:Nat)(c:Cfg)(me:Int)(h:Home):Prop:=g q=some (ER d t c me)/\g d=some (EP c h.dJ)/\g t=some (iR h.aT)
def Ri {xs:List AV}{cs:List Cell}(h:cs=xs.map .av):∀(i:Nat) (c:Cell) (x:AV),cs[i]?=some c->xs[i]?=some x->c=.av x∨(x=zN/\∃m,c=.seq m []):=by
 subst h;intro i c x hc b;rw [zaH,b] at hc;exact .inl (zaX hc).symm
def aju(H:ah)(hb:H.base<=H.next)(c:Cfg)(h:c.ok=true)(me:Int):∃H' q d t g',cl 42 [.agg c.av,I me] H=some (.ref q 0 0,H')/\Made H H' g'/\oL g' q d t c me (.new c me):=by
 let H1:=H.new (.blk 0 26 c.av);obtain⟨H2',d,e1,M1⟩:=abC H1.guard (zac _) c h me;obtain⟨H2,e1,M1⟩:=drawn e1 M1;obtain⟨H3',t,e2,M2⟩:=aey H2.guard;obtain⟨H3,e2,M2⟩:=drawn e2 M2;let xs:List AV:=[.ref d 0 0,.ref t 0 0]++c.av++[I me]
 have hall:xs.all AV.aP=true:=by
  simp only [xs,zbj,fD];rfl
 have M3:Made H3 (H3.new (.blk 0 150 xs)) (upd qE H3.next (ER d t c me)):=lH hall (by simp [xs,ER]) (Ri (by simp [xs,ER]));have g1:H1.get H.next=.blk 0 26 c.av:=aZ rfl
 have l1:H.next<H1.next:=by simp only [H1,eX];omega
 have b1:=jJ g1;have g2:H2.get H.next=.blk 0 26 c.av:=by rw [M1.same _ l1,g1]
 have g3:H3.get H.next=.blk 0 26 c.av:=by rw [M2.same _ (zay l1 M1.next),g2]
 have b3:=jJ g3;refine⟨_,H3.next,d,t,_,bC rfl rfl (arp _ _ _ _ (r:=(_,H3.new (.blk 0 150 xs))) ?_),((M1.trans M2).trans M3).zy,?_⟩
 ·have e:bd 150 [(0,.ref d 0 0),(1,.ref t 0 0),(2,.agg c.av),(3,I me)]=some (.agg xs):=by
   simp only [xq_,alu,jf,fK,af6,Cfg.av,fA];rfl
  simp only [H1] at e1 b1;simp only [Nat.reduceLT,xq_,hq_,amv,aG (fD c),b1,e1,e2,b3,e,aG hall]
 ·refine⟨lZ M3.good aQ (zac _),jU (M1.good.merge M2) (jU M1.good aQ rfl) rfl,jU (M1.good.merge M2) (lZ M2.good aQ (zac _)) rfl⟩
def ajv(H:ah)(l:List Opn)(d:l.length<1000000000){x:AV}(b:aN H x 3 l.length (l.flatMap Opn.av))(h0:l=[]->x=zN):∃H' q,cl 41 [x] H=some (.ref q 0 0,H')/\Made H H' (upd qE q (rY ⟨l,[],false⟩)):=by
 have g:=aeA H l d b h0 λh=>b.abD Tryz.underlying28 λe=>h (zat e);have hc:(vsl 3 Opn.av l).cells=[vsl 3 Opn.av l]:=Ih;refine⟨_,H.next,bC rfl rfl (arn _ _ _ (r:=(_,H.new (.blk 0 108 [vsl 3 Opn.av l,zN,zB]))) ?_),lH ?_ rfl λi c x hc b=>?_⟩
 ·simp only [Nat.reduceLT,Nat.reduceAdd,aO,xq_,hq_,amu,g,alp,jf,fK,af0,aG]
 ·simp only [hq_]
 ·match i with
  |0=>left;cases hc;cases b;rfl
  |1=>right;cases hc;cases b;exact⟨rfl,1,rfl⟩
  |2=>left;cases hc;cases b;rfl
  |i+3=>cases hc
def Made.add {H H1 b:ah}{g:bD}{q:Nat}{cs:List Cell}(M:Made H H1 g)(d:Made H1 b (upd qE q cs)):Made H b (upd g q cs):=
 (M.trans d).as ((M.good.aoT (d.lt aQ).1).symm)
def OI(a:Nat->Nat)(c:Cfg)(me:Int)(d:bM)(num:Int):List AV:=[.ref (a 1) 0 0,.ref (a 2) 0 0]++c.av++[I me,.ref (a 3) 0 0]++d.av++[I num]
def xU(a:Nat->Nat)(c:Cfg)(me:Int)(d:bM)(num:Int):List Cell:=(OI a c me d num).map .av
def uM(g:bD)(a:Nat->Nat)(c:Cfg)(me:Int)(n:Node):Prop:=
 g (a 0)=some (xU a c me n.aI n.num)/\g (a 1)=some (dG n.aH)/\g (a 2)=some (rY n.bQ)/\oL g (a 3) (a 4) (a 5) c me n.home
def Rj {a:Nat->Nat}{c:Cfg}{me:Int}{d:bM}{num:Int}:(OI a c me d num).all AV.aP=true:=by
 simp only [OI,zbj,fD,bG];rfl
def six(b d e g h i:Nat):Nat->Nat
 |0=>b
 |1=>d
 |2=>e
 |3=>g
 |4=>h
 |_=>i
def ajw(H:ah)(c:Cfg)(h:c.ok=true)(me:Int)(l:List Opn)(hl:l.length<1000000000){x:AV}(hx:aN H x 3 l.length (l.flatMap Opn.av))(h0:l=[]->x=zN):
  ∃H' a g',cl 11 [.agg c.av,I me,x] H=some (.ref (a 0) 0 0,H')/\Made H H' g'/\uM g' a c me (.new c me l):=by
 have Bd:=uK h;let H1:=H.new (.blk 0 26 c.av);obtain⟨H2',q1,e1,M1⟩:=aew H1.guard c.sets c.ways Bd.sets.1 Bd.ways.1;obtain⟨H2,e1,M1⟩:=drawn e1 M1;have hx2:aN H2 x 3 l.length (l.flatMap Opn.av):=(hx.new (.blk 0 26 c.av)).iZ M1.next λr _ hr=>M1.same r hr
 obtain⟨H3',q2,e2,M2⟩:=ajv H2.guard l hl hx2.guard h0;obtain⟨H3,e2,M2⟩:=drawn e2 M2;obtain⟨H4',q3,q4,q5,g4,e3,M3,I3⟩:=aju H3.guard (zac _) c h me;obtain⟨H4,e3,M3⟩:=drawn e3 M3;let a:=six H4.next q1 q2 q3 q4 q5
 let xs:=OI a c me .zero 0;have M4:Made H4 (H4.new (.blk 0 46 xs)) (upd qE H4.next (xU a c me .zero 0)):=lH Rj (by simp [xs,xU]) (Ri rfl);have g1:H1.get H.next=.blk 0 26 c.av:=aZ rfl
 have l1:H.next<H1.next:=by simp only [H1,eX];omega
 have l3:H.next<H3.next:=zay l1 (zaz M1.next M2.next)
 have b1:=jJ g1;have g2:H2.get H.next=.blk 0 26 c.av:=by rw [M1.same _ l1,g1]
 have g3:H3.get H.next=.blk 0 26 c.av:=by rw [M2.same _ (zay l1 M1.next),g2]
 have b3:=jJ g3;have G12:=M1.good.merge M2;have aoV:=G12.merge M3;refine⟨_,a,_,bC rfl rfl (aqX _ _ _ _ _ (r:=(_,H4.new (.blk 0 46 xs))) ?_),(((M1.trans M2).trans M3).trans M4).zy,?_⟩
 ·have e:bd 46 [(0,.ref q1 0 0),(1,.ref q2 0 0),(2,.agg c.av),(3,I me),(4,.agg [.ref q3 0 0])]=some (.agg xs):=by
   simp only [xq_,aqD,jf,fK,alh,Cfg.av,fA];rfl
  have l3:c.av[3]?=some (I c.sets):=rfl;have l4:c.av[4]?=some (I c.ways):=rfl;have bx:∀r,(AV.ref r 0 0).cells=[.ref r 0 0]:=λ_=>rfl;have eb:∀r,bd 42 [(0,.ref r 0 0)]=some (.agg [.ref r 0 0]):=λr=>by
   simp only [xq_,aqC,jf,fK,alf];rfl
  simp only [H1] at e1 b1;simp only [Nat.reduceLT,xq_,hq_,al6,aG (fD c),l3,l4,e1,e2,e3,b3,eb,e,aG Rj,xs];rfl
 ·refine⟨lZ M4.good aQ (zac _),jU aoV (jU G12 (jU M1.good aQ rfl) rfl) rfl,jU aoV (jU G12 (lZ M2.good aQ (zac _)) rfl) rfl,?_⟩;obtain⟨i1,i2,i3⟩:=I3;exact⟨jU aoV (lZ M3.good i1 (zac _)) rfl,jU aoV (lZ M3.good i2 (zac _)) rfl,jU aoV (lZ M3.good i3 (zac _)) rfl⟩
def pF(a:Nat->Nat):List AV:=[.ref (a 0) 0 0,.ref (a 1) 0 0,.ref (a 2) 0 0,.ref (a 3) 0 0]
def aeG(P:Nat->Nat->Nat)(n:Nat):List Cell:=[.seq 4 ((List.range n).flatMap λi=>pF (P i))]
def wO(g:bD)(a:Nat->Nat)(c:Cfg)(p:Port):Prop:=
 g (a 0)=some (oz p.rq c.out)/\g (a 1)=some (oz p.rin c.inn)/\g (a 2)=some (oz p.an c.out)/\g (a 3)=some (oz p.ain 1)
def UD(P:Nat->Nat->Nat)(n:Nat):Prop:=∀i j s t,i<n->j<n->s<4->t<4->P i s=P j t->i=j/\s=t
def iG(g:bD)(f:Nat)(P:Nat->Nat->Nat)(c:Cfg)(fab:Fab):Prop:=
 g f=some (aeG P fab.l.length)/\(∀i p,fab.l[i]?=some p->wO g (P i) c p)/\fab.out=c.out/\fab.inn=c.inn
def asx(b d e g:Nat):Nat->Nat
 |0=>b
 |1=>d
 |2=>e
 |_=>g
def Ll {P b:Nat->Nat->Nat}:∀n,(∀i,i<n->b i=P i)->(List.range n).flatMap (λi=>pF (b i))=(List.range n).flatMap λi=>pF (P i)
 |0,_=>rfl
 |n+1,h=>by
  rw [zcd,zbG,zbG,Ll n λi hi=>h i V];simp only [zaC,zdv,h n V]
def pY(P:Nat->Nat->Nat)(n:Nat):((List.range n).flatMap λi=>pF (P i)).length=n*4:=by
 rw [dM (m:=4) (λ_=>rfl),zcX]
def wO.ext {g g':bD}{a:Nat->Nat}{c:Cfg}{p:Port}(h:wO g a c p)(b:∀s,s<4->g' (a s)=g (a s)):wO g' a c p:=by
 obtain⟨d,e,i,j⟩:=h;exact⟨by rw [b 0 V,d],by rw [b 1 V,e],by rw [b 2 V,i],by rw [b 3 V,j]⟩
def wO.some {g:bD}{a:Nat->Nat}{c:Cfg}{p:Port}(h:wO g a c p){s:Nat}(hs:s<4):∃l r,g (a s)=some (oz l r):=by
 obtain⟨b,d,e,i⟩:=h
 match s,hs with
 |0,_=>exact⟨_,_,b⟩
 |1,_=>exact⟨_,_,d⟩
 |2,_=>exact⟨_,_,e⟩
 |3,_=>exact⟨_,_,i⟩
def abE(H:ah)(hb:H.base<=H.next)(c:Cfg)(h:c.ok=true):∃H' f P g',cl 9 [.agg c.av] H=some (.ref f 0 0,H')/\Made H H' g'/\iG g' f P c (.new c)/\UD P c.aB.toNat:=by
 have Bd:=uK h;let H1:=H.new (.blk 0 26 c.av);let H2:=H1.new (.blk 0 93 [zN]);let f:=H.next+1
 have M0:Made H1 H2 (upd qE f (aeG (λ_ _=>0) 0)):=lH rfl rfl λi c x hc hx=>by
  match i with
  |0=>right;cases hc;cases hx;exact⟨rfl,4,rfl⟩
  |i+1=>cases hc
 have l0:c.av[0]?=some (I c.aB):=rfl;have l5:c.av[5]?=some (I c.out):=rfl;have l6:c.av[6]?=some (I c.inn):=rfl;have key:∀k i,i+k=c.aB.toNat->∀Hi gi P,Made H1 Hi gi->gi f=some (aeG P i)->(∀j,j<i->wO gi (P j) c .zero)->UD P i->
   ∃H' g' P',V4 cl [.ref H.next 0 0,.ref f 0 0,I c.aB,I i] Hi=some (.ref f 0 0,H')/\Made H1 H' g'/\g' f=some (aeG P' c.aB.toNat)/\(∀j,j<c.aB.toNat->wO g' (P' j) c .zero)/\UD P' c.aB.toNat:=by
  intro k
  induction k with
  |zero=>
   intro i hi Hi gi P M hf hp hj;have h1:¬(i:Int)<c.aB:=by omega
   have hi':c.aB.toNat=i:=by omega
   rw [agO];refine⟨Hi,gi,P,?_,M,by rw [hi'];exact hf,by rw [hi'];exact hp,by rw [hi'];exact hj⟩;simp only [xq_,h1]
  |succ k ih=>
   intro i hi Hi gi P M hf hp hj;have h1:(i:Int)<c.aB:=by omega
   have h6:(i:Int)+1=((i+1:Nat):Int):=by omega
   have h7:=wrap_i64 (a:=((i+1:Nat):Int)) (by have:=Bd.aB;omega) (by have:=Bd.aB;omega);have lt1:H.next<H1.next:=by simp only [H1,eX];omega
   have bx:∀H':ah,(∀r,r<H1.next->H'.get r=H1.get r)->H'.get H.next=.blk 0 26 c.av:=λH' hs=>by rw [hs _ lt1];exact aZ rfl
   have ld5:∀H':ah,(∀r,r<H1.next->H'.get r=H1.get r)->ld (.ref H.next 0 5) H'=some (I c.out,H'):=λH' hs=>by rw [fJ (bx H' hs),l5];rfl
   have ld6:∀H':ah,(∀r,r<H1.next->H'.get r=H1.get r)->ld (.ref H.next 0 6) H'=some (I c.inn,H'):=λH' hs=>by rw [fJ (bx H' hs),l6];rfl
   obtain⟨x,hx,cx⟩:=M.good.seq hf (i:=0) rfl;obtain⟨Ha',q1,a1,Ma⟩:=abz Hi.guard c.out (by have:=Bd.out;omega);obtain⟨Ha,a1,Ma⟩:=drawn a1 Ma;have Na:=M.add Ma;obtain⟨Hb',q2,a2,Mb⟩:=WH Ha.guard c.inn (by have:=Bd.inn;omega);obtain⟨Hb,a2,Mb⟩:=drawn a2 Mb;have Nb:=Na.add Mb;obtain⟨Hc',q3,a3,Mc⟩:=abz Hb.guard c.out (by have:=Bd.out;omega);obtain⟨Hc,a3,Mc⟩:=drawn a3 Mc;have Nc:=Nb.add Mc;obtain⟨Hd',q4,a4,Md⟩:=WH Hc.guard 1 (by omega);obtain⟨Hd,a4,Md⟩:=drawn a4 Md;have Nd:=Nc.add Md;have o1:=Ma.lt aQ;have o2:=Mb.lt aQ;have o3:=Mc.lt aQ;have o4:=Md.lt aQ;have hfl:=M.good.lt hf;have cd:Cur H1.next Hd f 0 x 4 _:=(((cx.ext Ma.next Ma.same).ext Mb.next Mb.same).ext Mc.next Mc.same).ext Md.next Md.same
   let a:=asx q1 q2 q3 q4;let o:gu:=.blk 0 101 (pF a);let g4:=upd (upd (upd (upd gi q1 (oz [] c.out)) q2 (oz [] c.inn)) q3 (oz [] c.out)) q4 (oz [] 1);have low:∀q,q<Hi.next->g4 q=gi q:=λq hq=>by
    simp only [g4];rw [bn (by omega),bn (by omega),bn (by omega),bn (by omega)]
   have hf4:g4 f=some (aeG P i):=by rw [low f hfl,hf]
   obtain⟨x',He,Hf,t1,t2,t3,t4⟩:=(Nd.good.new o).append (e:=101) (by_:=32) (by rw [jB,Nd.base];simp only [H1,jB,eX];omega) hf4 (i:=0) rfl (by decide) (pY P i) (cd.new o) (kN (ex:=true) (n:=1) (m:=4) (l:=pF a) rfl) rfl (by have:=Bd.aB;unfold most;omega) (by have:=Bd.aB;unfold most;omega);let P':Nat->Nat->Nat:=λj=>if j=i then a else P j
   have hP:∀j,j<i->P' j=P j:=λj hj=>by simp only [P'];rw [if_neg (by omega)]
   have hPi:P' i=a:=by simp only [P',if_true]
   have Mf:Made H1 Hf (upd g4 f (aeG P' (i+1))):=by
    refine((Nd.new o).step t3 t4).as ?_
    congr 1
    simp only [aeG,zb9];rw [zcd,zbG,Ll i hP,zaC,zdv,zbm,hPi]
   have hq:∀s,s<4->Hi.next<=a s:=λs hs=>by
    match s,hs with
    |0,_=>exact o1.1
    |1,_=>exact zaz Ma.next o2.1
    |2,_=>exact zaz Ma.next (zaz Mb.next o3.1)
    |3,_=>exact zaz Ma.next (zaz Mb.next (zaz Mc.next o4.1))
   have hpl:∀j,j<i->∀s,s<4->P j s<Hi.next:=λj hji s hs=>by
    obtain⟨l,r,hg⟩:=(hp j hji).some hs;exact M.good.lt hg
   obtain⟨H',g',P'',r1,r2⟩:=ih (i+1) (by omega) Hf _ P' Mf aQ (λj hj1=>by
    by_cases hji:j=i
    ·subst hji;rw [hPi];have h4:∀s,s<4->a s≠f:=λs hs=>by have:=hq s hs;omega
     refine wO.ext (g:=g4) ⟨?_,?_,?_,?_⟩ λs hs=>bn (h4 s hs)
     ·show g4 q1=_;simp only [g4];rw [bn (by omega),bn (by omega),bn (by omega),aQ];rfl
     ·show g4 q2=_;simp only [g4];rw [bn (by omega),bn (by omega),aQ];rfl
     ·show g4 q3=_;simp only [g4];rw [bn (by omega),aQ];rfl
     ·show g4 q4=_;simp only [g4];rw [aQ];rfl
    ·rw [hP j (by omega)];refine(hp j (by omega)).ext λs hs=>?_;have hlt:=hpl j (by omega) s hs;obtain⟨l,r,hg⟩:=(hp j (by omega)).some hs;have:P j s≠f:=λe=>by rw [e,hf] at hg;cases hg
     rw [bn this,low _ hlt]) (λj k s t hj1 hk1 hs ht e=>by
    by_cases hji:j=i
    ·by_cases hki:k=i
     ·subst hji;subst hki;refine⟨rfl,?_⟩;rw [hPi] at e
      match s,hs,t,ht with
      |0,_,0,_|1,_,1,_|2,_,2,_|3,_,3,_=>rfl
      |0,_,1,_|0,_,2,_|0,_,3,_|1,_,0,_|1,_,2,_|1,_,3,_|2,_,0,_|2,_,1,_|2,_,3,_|3,_,0,_|3,_,1,_|3,_,2,_=>simp only [a,asx] at e;omega
     ·subst hji;rw [hPi,hP k (by omega)] at e;have:=hq s hs;have:=hpl k (by omega) t ht;omega
    ·by_cases hki:k=i
     ·subst hki;rw [hPi,hP j (by omega)] at e;have:=hq t ht;have:=hpl j (by omega) s hs;omega
     ·rw [hP j (by omega),hP k (by omega)] at e;exact hj j k s t (by omega) (by omega) hs ht e)
   refine⟨H',g',P'',?_,r2⟩;rw [agO];have s1:=ld5 Hi M.same;have s2:=ld6 Ha Na.same;have s3:=ld5 Hb Nb.same;have ep:∀r r',bd 99 [(0,.ref r 0 0),(1,.ref r' 0 0)]=some (.agg [.ref r 0 0,.ref r' 0 0]):=λr r'=>by
    simp only [xq_,alm,jf,fK,alk];rfl
   have eq:∀r r' r2 r3,bd 101 [(0,.agg [.ref r 0 0,.ref r' 0 0]),(1,.agg [.ref r2 0 0,.ref r3 0 0])]=some (.agg [.ref r 0 0,.ref r' 0 0,.ref r2 0 0,.ref r3 0 0]):=λr r' r2 r3=>by
    simp only [xq_,aln,jf,fK,afY];rfl
   have eb:=kZ (e:=101) (m:=4) (z:=[zP,zP,zP,zP]) (v:=.agg [.ref q1 0 0,.ref q2 0 0,.ref q3 0 0,.ref q4 0 0]) (H:=Hd) rfl rfl rfl;simp only [fA] at eb;simp only [o,a,pF,asx,f] at t1 t2 r1 hx;simp only [Nat.reduceLeDiff,xq_,hq_,h1,f,hx,s1,s2,s3,a1,a2,a3,a4,ep,eq,aqB,zbh,eb,t1,t2,cZ,h6,h7,r1]
 obtain⟨H',g',P,r1,r2,r3,r4,r5⟩:=key c.aB.toNat 0 (by omega) H2 _ _ M0 aQ (λj hj=>by omega) (λi j s t hi=>by omega);refine⟨H',f,P,g',bC rfl rfl (atV _ _ _ (r:=(_,H')) ?_),r2.zy,⟨?_,?_,rfl,rfl⟩,r5⟩
 ·have e0:bd 93 []=some (.agg [zN]):=by
   simp only [xq_,aqG,jf,fK]
  have a0:([zN]:List AV).all AV.aP=true:=rfl;simp only [Nat.reduceLT,xq_,hq_,atq,aG (fD c),e0,aG a0,l0];exact r1
 ·rw [r3];simp only [Fab.new,zcb]
 ·intro i p hp;simp only [Fab.new] at hp;rw [zbB] at hp;split at hp
  ·cases hp;exact r4 i (by omega)
  ·cases hp
structure Adr where
 iI:Nat
 fab:Nat
 trace:Nat
 N:Nat->Nat->Nat
 P:Nat->Nat->Nat
def JF(A:Adr)(c:Cfg):List AV:=[.ref A.fab 0 0,.ref A.trace 0 0]++c.av
def qh(N:Nat->Nat->Nat)(n:Nat):List AV:=(List.range n).map λi=>.ref (N i 0) 0 0
def xW(A:Adr)(c:Cfg)(n:Nat):List Cell:=(JF A c).map .av++[.seq 1 (qh A.N n)]
def ap9(N:Nat->Nat->Nat)(n:Nat):Prop:=∀i j s t,i<n->j<n->s<6->t<6->N i s=N j t->i=j/\s=t
structure gJ(g:bD)(A:Adr)(m:bW):Prop where
 iI:g A.iI=some (xW A m.c m.aB.length)
 trace:g A.trace=some (oC m.trace)
 fab:iG g A.fab A.P m.c m.fab
 bF:∀(i:Nat) n,m.aB[i]?=some n->uM g (A.N i) m.c i n
 S9:UD A.P m.fab.l.length
 akE:ap9 A.N m.aB.length
 tf:A.trace≠A.fab
def uM.some {g:bD}{a:Nat->Nat}{c:Cfg}{me:Int}{n:Node}(h:uM g a c me n){s:Nat}(hs:s<6):∃l,g (a s)=some l:=by
 obtain⟨b,d,e,i,j,k⟩:=h
 match s,hs with
 |0,_=>exact⟨_,b⟩
 |1,_=>exact⟨_,d⟩
 |2,_=>exact⟨_,e⟩
 |3,_=>exact⟨_,i⟩
 |4,_=>exact⟨_,j⟩
 |5,_=>exact⟨_,k⟩
def uM.ext {g g':bD}{a:Nat->Nat}{c:Cfg}{me:Int}{n:Node}(h:uM g a c me n)(b:∀s,s<6->g' (a s)=g (a s)):uM g' a c me n:=by
 obtain⟨d,e,i,j,k,m⟩:=h;exact⟨by rw [b 0 V,d],by rw [b 1 V,e],by rw [b 2 V,i],by rw [b 3 V,j],by rw [b 4 V,k],by rw [b 5 V,m]⟩
def uM.inj {g:bD}{a:Nat->Nat}{c:Cfg}{me:Int}{n:Node}(h:uM g a c me n){s t:Nat}(hs:s<6)(b:t<6)(e:a s=a t):s=t:=by
 obtain⟨d,i,j,k,m,o⟩:=h;have p:(g (a s)).map List.length=(g (a t)).map List.length:=by rw [e]
 match s,hs,t,b with
 |0,_,0,_|1,_,1,_|2,_,2,_|3,_,3,_|4,_,4,_|5,_,5,_=>rfl
 |0,_,1,_|0,_,2,_|0,_,3,_|0,_,4,_|0,_,5,_|1,_,0,_|1,_,2,_|1,_,3,_|1,_,4,_|1,_,5,_|2,_,0,_|2,_,1,_|2,_,3,_|2,_,4,_|2,_,5,_|3,_,0,_|3,_,1,_|3,_,2,_|3,_,4,_|3,_,5,_|4,_,0,_|4,_,1,_|4,_,2,_|4,_,3,_|4,_,5,_|5,_,0,_|5,_,1,_|5,_,2,_|5,_,3,_|5,_,4,_=>
  simp [d,i,j,k,m,o,xU,OI,Cfg.av,bM.av,dG,rY,ER,EP,iR] at p
def IZ {N N':Nat->Nat->Nat}{n:Nat}(h:∀i,i<n->N' i=N i):qh N' (n+1)=qh N n++[.ref (N' n 0) 0 0]:=by
 unfold qh;rw [zcd,zbi]
 congr 1
 refine zbt λi hi=>?_;rw [h i (zaW.1 hi)]
def FZ {c:Cfg}{ps:List (List Opn)}(h:c.vT ps=true):(ps.length:Int)=c.aB/\∀l∈ps,l.length<=24:=by
 simp only [Cfg.vT,zah,decide_eq_true_eq,zaZ] at h;exact⟨h.2,λl b=>(h.1 l b).1⟩
def Lm(H:ah)(hb:H.base<=H.next)(c:Cfg)(h:c.ok=true){x:AV}{ps:List (List Opn)}(hx:WI H x ps)(hp:c.vT ps=true):∃H' A g',cl 32 [.agg c.av,x] H=some (.tup [.ref A.iI 0 0,I 0],H')/\Made H H' g'/\gJ g' A (.new c ps):=by
 have Bd:=uK h;obtain⟨hp1,hp2⟩:=FZ hp;have hn:=Bd.aB;let H1:=H.new (.blk 0 26 c.av);have lt1:H.next<H1.next:=by simp only [H1,eX];omega
 have g1:H1.get H.next=.blk 0 26 c.av:=aZ rfl
 have b1:=jJ g1;have e1:=aeB H1 c h;have e2:=aoU H1 c h (hx.iZ (H':=H1) (by omega) λr hr=>bJ hr) (by omega) λl hl=>by have:=hp2 l hl;omega
 rw [hp] at e2;have e3:=kC H1 c.init (by have:=Bd.init;have:=Bd.kU;omega);obtain⟨H2',f,P,gf,e4,M1,F1,J1⟩:=abE H1.guard (zac _) c h;obtain⟨H2,e4,M1⟩:=drawn e4 M1;obtain⟨H3',t,e5,M2⟩:=aex H2.guard;obtain⟨H3,e5,M2⟩:=drawn e5 M2;let A0:Adr:=⟨H3.next,f,t,λ_ _=>0,P⟩
 have bx:∀H':ah,(∀r,r<H1.next->H'.get r=H1.get r)->H'.get H.next=.blk 0 26 c.av:=λH' hs=>by rw [hs _ lt1,g1]
 have M12:=M1.add M2;have b3:=jJ (bx H3 M12.same);have b2:=jJ (bx H2 M1.same);let xs:=JF A0 c++[zN]
 have hall:xs.all AV.aP=true:=by simp only [xs,JF,zbj,fD];rfl
 have M3:Made H3 (H3.new (.blk 0 75 xs)) (upd qE H3.next (xW A0 c 0)):=by
  refine lH hall (by simp [xs,xW]) λi cc y hc hy=>?_;simp only [xW] at hc;by_cases hi:i<(JF A0 c).length
  ·left;rw [zaJ (by rw [zaE];exact hi),zaH] at hc;rw [zaJ hi] at hy;rw [hy] at hc;exact(zaX hc).symm
  ·right;have hlen:(JF A0 c).length=10:=rfl;have:i=10:=by
    have:=(zae.1 hy).1;simp only [xs,zaq,zal,zao] at this;omega
   subst this;cases hc;cases hy;exact⟨rfl,1,rfl⟩
 have M0:=M12.add M3;let g0:=upd (upd gf t (oC [])) H3.next (xW A0 c 0)
 let K:=H3.next
 have key:∀k i,i+k=ps.length->∀Hi gi N,Made H1 Hi gi->gi K=some (xW { A0 with N:=N } c i)->(∀q,q<K->gi q=g0 q)->(∀(j:Nat) l,j<i->ps[j]?=some l->uM gi (N j) c j (.new c j l))->ap9 N i->
   ∃H' g' N',N9 cl [.ref H.next 0 0,.ref K 0 0,x,I ps.length,I i] Hi=some (.tup [.ref K 0 0,I 0],H')/\Made H1 H' g'/\g' K=some (xW { A0 with N:=N' } c ps.length)/\(∀q,q<K->g' q=g0 q)/\(∀(j:Nat) l,j<ps.length->ps[j]?=some l->uM g' (N' j) c j (.new c j l))/\ap9 N' ps.length:=by
  intro k
  induction k with
  |zero=>
   intro i hi Hi gi N M hm hl hnd hj;have h1:¬(i:Int)<ps.length:=by omega
   have hi':ps.length=i:=by omega
   rw [aaB];refine⟨Hi,gi,N,?_,M,by rw [hi'];exact hm,hl,by rw [hi'];exact hnd,by rw [hi'];exact hj⟩;simp only [xq_,h1]
  |succ k ih=>
   intro i hi Hi gi N M hm hlow hnd hj;have h1:(i:Int)<ps.length:=by omega
   have h6:(i:Int)+1=((i+1:Nat):Int):=by omega
   have h7:=wrap_i64 (a:=((i+1:Nat):Int)) (by omega) (by omega);have hxi:=hx.iZ (H':=Hi) (zaz (Nat.le_of_lt lt1) M.next) λr hr=>by rw [M.same r (by omega)];exact bJ hr
   obtain⟨cells,x1,x2⟩:=hxi;have hcl:cells.length=ps.length:=by have:=x1.1;omega
   have s1:=x1.ix (k:=.i64) (i:=(i:Int)) (by omega) h1;rw [zar] at s1;have s2:=x1.ld (i:=i) (by omega);obtain⟨v,hv⟩:∃v,cells[i]?=some v:=⟨_,zab (by omega)⟩
   obtain⟨l,hl⟩:∃l,ps[i]?=some l:=⟨_,zab (by omega)⟩
   rw [hv] at s2;obtain⟨v1,v2⟩:=x2 i v l hv hl;have s4:=jJ (bx Hi M.same);obtain⟨y,hy,cy⟩:=M.good.seq hm (i:=10) (m:=1) (l:=qh N i) rfl;obtain⟨Ha',a,ga,a1,Ma,Ia⟩:=ajw Hi.guard c h i l (by have:=hp2 l (zan hl);omega) v1.guard v2;obtain⟨Ha,a1,Ma⟩:=drawn a1 Ma;have Na:=M.trans Ma;let ga':=cup Hi.next gi ga
   have hK:=M.good.lt hm;have ahP:∀q,q<Hi.next->ga' q=gi q:=λq hq=>by simp only [ga',cup,hq,if_true]
   have hma:ga' K=some (xW { A0 with N:=N } c i):=by rw [ahP K hK,hm]
   let o:gu:=.blk 0 35 [.ref (a 0) 0 0];have hnl:(qh N i).length=i*1:=by simp [qh]
   obtain⟨y',He,Hf,t1,t2,t3,t4⟩:=(Na.good.new o).append (e:=35) (by_:=8) (by rw [jB,Na.base];simp only [H1,jB,eX];omega) hma (i:=10) rfl (by decide) hnl ((cy.ext Ma.next Ma.same).new o) (kN (ex:=true) (n:=1) (m:=1) (l:=[.ref (a 0) 0 0]) rfl) rfl (by unfold most;omega) (by unfold most;omega);let N':Nat->Nat->Nat:=λj=>if j=i then a else N j
   have hN:∀j,j<i->N' j=N j:=λj hj=>by simp only [N'];rw [if_neg (by omega)]
   have hNi:N' i=a:=by simp only [N',if_true]
   have Mf:Made H1 Hf (upd ga' K (xW { A0 with N:=N' } c (i+1))):=by
    refine((Na.new o).step t3 t4).as ?_
    congr 1
    simp only [xW];rw [IZ hN,hNi];rfl
   have hal:∀s,s<6->Hi.next<=a s/\ga' (a s)=ga (a s):=λs hs=>by
    obtain⟨l,hg⟩:=Ia.some hs;have:=(Ma.lt hg).1;exact⟨this,by simp only [ga',cup];rw [if_neg (by omega)]⟩
   have hNl:∀j,j<i->∀s,s<6->N j s<Hi.next:=λj hji s hs=>by
    obtain⟨lj,hlj⟩:∃l,ps[j]?=some l:=⟨_,zab (by omega)⟩
    obtain⟨l,hg⟩:=(hnd j lj hji hlj).some hs;exact M.good.lt hg
   obtain⟨H',g',N'',r1,r2⟩:=ih (i+1) (by omega) Hf _ N' Mf aQ (λq hq=>by
    rw [bn (by omega),ahP q (by omega),hlow q hq]) (λj lj hj1 hlj=>by
    by_cases hji:j=i
    ·subst hji;rw [hl] at hlj;cases hlj;rw [hNi];exact Ia.ext λs hs=>by
      obtain⟨h1,h2⟩:=hal s hs;rw [bn (by omega),h2]
    ·rw [hN j (by omega)];refine(hnd j lj (by omega) hlj).ext λs hs=>?_;have hlt:=hNl j (by omega) s hs;have hne:N j s≠K:=λe=>by
      have I:=hnd j lj (by omega) hlj;obtain⟨l',hg⟩:=I.some hs;obtain⟨h0,h1,h2,h3,h4,h5⟩:=I;have hh:(gi (N j s)).map (λl=>l[10]?)=some (some (.seq 1 (qh N i))):=by rw [e,hm];rfl
      match s,hs with
      |0,_=>rw [h0] at hh;simp [xU,OI,Cfg.av,bM.av] at hh
      |1,_=>rw [h1] at hh;simp [dG] at hh
      |2,_=>rw [h2] at hh;simp [rY] at hh
      |3,_=>rw [h3] at hh;simp [ER,Cfg.av] at hh
      |4,_=>rw [h4] at hh;simp [EP,Cfg.av] at hh
      |5,_=>rw [h5] at hh;simp [iR] at hh
     rw [bn hne,ahP _ hlt]) (λj k s t hj1 hk1 hs ht e=>by
    by_cases hji:j=i
    ·by_cases hki:k=i
     ·subst hji;subst hki;rw [hNi] at e;exact⟨rfl,Ia.inj hs ht e⟩
     ·subst hji;rw [hNi,hN k (by omega)] at e;have:=(hal s hs).1;have:=hNl k (by omega) t ht;omega
    ·by_cases hki:k=i
     ·subst hki;rw [hNi,hN j (by omega)] at e;have:=(hal t ht).1;have:=hNl j (by omega) s hs;omega
     ·rw [hN j (by omega),hN k (by omega)] at e;exact hj j k s t (by omega) (by omega) hs ht e)
   refine⟨H',g',N'',?_,r2⟩;rw [aaB];have eb:=kZ (e:=35) (m:=1) (z:=[zP]) (v:=.ref (a 0) 0 0) (H:=Ha) rfl rfl rfl;have ec:(AV.ref (a 0) 0 0).cells=[.ref (a 0) 0 0]:=rfl;rw [ec] at eb;simp only [o] at t1 t2;simp only [Nat.reduceLeDiff,xq_,hq_,h1,s1,s2,s4,hy,a1,aqA,zbh,eb,t1,t2,cZ,h6,h7,r1]
 have hfl:f<H2.next:=M1.good.lt F1.1
 have ht:=M2.lt aQ;obtain⟨H',g',N,r1,r2,r3,r4,r5,r6⟩:=key ps.length 0 (by omega) _ g0 (λ_ _=>0) M0 aQ (λq hq=>rfl) (λj l hj=>by omega) (λi j s t hi=>by omega);have hg0:∀q,q<H2.next->g0 q=gf q:=λq hq=>by simp only [g0];rw [bn (by omega),bn (by omega)]
 refine⟨H',{ A0 with N:=N },g',bC rfl rfl (ard _ _ _ _ (r:=(_,H')) ?_),r2.zy,?_⟩
 ·have l7:c.av[7]?=some (dat c.init):=rfl;have b0:qH Tryz.prog .neq 48 (I 0) (I 0)=some (B false):=by kernel_rfl
  have st7:st 1 (.ref H.next 0 7) (dat c.init) H1=some (bg,H1):=by
   simp only [H1];rw [QF rfl];simp only [Nat.reduceAdd,aO,xq_,hq_,Cfg.av,hb]
  have em:bd 75 [(0,.ref f 0 0),(1,.ref t 0 0),(2,.agg c.av)]=some (.agg xs):=by
   simp only [xq_,aqE,jf,fK,ali,Cfg.av,fA];rfl
  have el:=(hx.iZ (H':=H3.new (.blk 0 75 xs)) (by have:=M12.next;simp only [eX];omega) λr hr=>by rw [M0.same r (by omega)];exact bJ hr)
  obtain⟨cells,x1,_⟩:=el;have el:=x1.lnS;simp only [H1] at b1 e1 e2 e3 e4 e5 st7;simp only [Nat.reduceLT,xq_,hq_,amn,aG (fD c),b1,e1,b0,e2,e3,l7,st7,e4,e5,b3,em,aG hall,el];exact r1
 ·refine⟨?_,?_,⟨?_,?_,rfl,rfl⟩,?_,?_,?_,?_⟩
  ·rw [r3];simp only [bW.new,zcc]
  ·rw [r4 t ht.2];simp only [g0];rw [bn (by omega),aQ];rfl
  ·show g' f=_;rw [r4 f (by have:=M2.next;omega),hg0 f hfl,F1.1];rfl
  ·intro i p hp;have I:=F1.2.1 i p hp;exact I.ext λs hs=>by
    obtain⟨l,r,hg⟩:=I.some hs;have:=M1.good.lt hg;rw [r4 _ (by have:=M2.next;omega),hg0 _ this]
  ·intro i n hi;simp only [bW.new,zbe,zb5] at hi;obtain⟨l,hl,rfl⟩:=hi;exact r5 i l (zae.1 hl).1 hl
  ·simp only [bW.new,Fab.new,zcb];exact J1
  ·simp only [bW.new,zcc];exact r6
  ·show t≠f;omega
section
variable {b:Nat}{H:ah}{g:bD}{q:Nat}
def OJ(G:Good b H g){p:Proc}(h:g q=some (rY p))(m:p.ops.length<1000)(o:p.bH.length<1000):cl 12 [.ref q 0 0] H=some (I p.left,H):=by
 refine bC rfl rfl (aqZ _ _ _ ?_);have d:=G.load h (i:=0) rfl;have e:=(Ic eP H p.ops).lnS;obtain⟨x,j,c⟩:=G.seq h (i:=1) rfl;have k:=(c.is (n:=p.bH.length) Z O).lnS;simp only [xq_,al7,d,e,j,k,kH,Proc.left];rw [wrap_i64 V V]
def Rk(G:Good b H g){p:Proc}(h:g q=some (rY p)):cl 63 [.ref q 0 0] H=some (B p.eG,H):=by
 refine bC rfl rfl (arJ _ _ _ ?_);have d:=G.load h (i:=2) rfl;simp only [xq_,amJ,d]
def abG(G:Good b H g){l:List Pkt}{room:Int}(h:g q=some (oz l room)):cl 58 [.ref q 0 0] H=some (I l.length,H):=by
 refine bC rfl rfl (arD _ _ _ ?_);obtain⟨x,d,c⟩:=G.seq h (i:=0) rfl;have e:=(c.is Z (dM bZ l)).lnS;simp only [xq_,amG,d,e]
def WJ(G:Good b H g){l:List Pkt}{room:Int}(h:g q=some (oz l room)):cl 104 [.ref q 0 0] H=some (I l.length,H):=by
 refine bC rfl rfl (anh _ _ _ ?_);obtain⟨x,d,c⟩:=G.seq h (i:=0) rfl;have e:=(c.is Z (dM bZ l)).lnS;simp only [xq_,agR,d,e]
def abH {H:ah}(l:List Int)(h:l.length<1000000000):app 3 1 8 zN (dat l) H=some (if l=[] then(zN,H) else(.sl H.next 0 0 1 l.length l.length false,H.new (.blk 0 (3+iC) (l.map I)))):=by
 by_cases b:l=[]
 ·subst b;simp only [dat,gI,if_true];rfl
 ·rw [if_neg b];exact Nw (kY _ l) (yH l) (λe=>b (zat e)) (by unfold most;omega) (by unfold most;omega)
def Lp {H:ah}{s d r:Nat}{l:List Int}(b:l≠[])(e:s<=r){ty:TypeId}(g:H.get r=.blk 0 ty (l.map I)){ex:Bool}:bV H s (d+2) (.sl r 0 0 1 l.length l.length ex)=some (dat l):=by
 rw [xQ b];refine oh e (cells:=l.map I) ?_ (jh _ λx h=>yI _ x h _ _);simp only [dH,g];rw [if_pos ⟨trivial,O⟩,zaS,zaw O]
def aeH(G:Good b H g){a:Nat->Nat}{c:Cfg}{me:Int}{d:bM}{num:Int}(h:g q=some (xU a c me d num))(hd:d.data.length<1000000000):
  cl 20 [.ref q 0 0] H=some (.tup [.agg (if d.step=0 then bM.zero else d).av,B (!decide (d.step=0))],H):=by
 have y:bM.zero.av=[zI,zI,zI,zI,zI,zI,zN,zI,zI]:=by simp [bM.zero,bM.av,dat,gI]
 have z:=G.guard.new (.blk 0 44 [zI,zI,zI,zI,zI,zI,zN,zI,zI]);have u:=z.load h (i:=15) (x:=I d.step) rfl;have D:bd 44 []=some (.agg [zI,zI,zI,zI,zI,zI,zN,zI,zI]):=by simp only [xq_,XP,jf,fK]
 by_cases j:d.step=0
 ·refine dD rfl rfl (aiU _ _ _) ?_ ?_
  ·simp only [Nat.reduceAdd,aO,xq_,hq_,aat,u,j,D,y,zaf]
  ·rw [if_pos j,y];refine vP λx e=>?_;simp only [zaj,zaA,or_false] at e;rcases e with rfl|rfl
   ·refine ny λx e=>?_;simp only [zaj,zaA,or_false] at e;rcases e with rfl|rfl|rfl|rfl|rfl|rfl|rfl|rfl|rfl <;> exact iD
   ·exact iD
 ·have A:=z.loads h (i:=12) (n:=9) (xs:=d.av) rfl rfl Z;by_cases p:d.data=[]
  ·refine dD rfl rfl (aiU _ _ _) (v:=.tup [.agg d.av,B true]) ?_ ?_ |>.trans ?_
   ·have k:=λH=>abH (H:=H) d.data hd;have C:dat ([]:List Int)=zN:=by simp [dat,gI]
    simp only [p,if_true,C] at k;have E:zN.cells=[zN]:=rfl;simp only [Nat.reduceAdd,aO,xq_,hq_,aat,u,j,A,bM.av,p,k,C,E]
   ·refine vP λx e=>?_;simp only [zaj,zaA,or_false] at e;rcases e with rfl|rfl
    ·refine ny λx e=>?_;simp only [bM.av,zaj,zaA,or_false] at e;rcases e with rfl|rfl|rfl|rfl|rfl|rfl|rfl|rfl|rfl <;> first|exact iD|exact vS
    ·exact iD
   ·simp only [j,if_false,decide_false,zam]
  ·let M:=H.next+2
   have k:=λH=>abH (H:=H) d.data hd;simp only [p,if_false] at k;have key:∃o,aat cl (.ref q 0 0) H.guard=some (.tup [.agg [I d.aS,I d.aj,I d.id,I d.step,I d.aV,I d.head,.sl (H.next+2) 0 0 1 d.data.length d.data.length false,I d.next,I d.told],B true],o)/\o.get (H.next+2)=.blk 0 (3+iC) (d.data.map I):=by
    have cs:∀r n m,(AV.sl r 0 0 1 n m false).cells=[.sl r 0 0 1 n m false]:=λ_ _ _=>rfl;have F:∀r n m,AV.aP (.sl r 0 0 1 n m false)=true:=λ_ _ _=>rfl;simp only [Nat.reduceAdd,aO,xq_,hq_,zaa,zad,exists_eq_left',aat,u,j,A,bM.av,k,cs,F];exact aZ (by first|rfl|simp only [eX,Ai])
   obtain⟨o,k1,K⟩:=key;refine jD rfl rfl (aiU _ _ _ k1) ?_;have f:=Lp (s:=H.next) (d:=5) (ex:=false) p V K;have L:∀v,bV o H.next 7 (.s v)=some (.s v):=λv=>jo
   have w:∀v,bV o H.next 8 (.s v)=some (.s v):=λv=>jo
   rw [bV,zbw,bV];simp only [zbw,List.mapM_nil,f,L,w,j,if_false,decide_false,zam,bM.av];rfl
end
section
variable {b:Nat}{H:ah}{g:bD}{q f:Nat}{P:Nat->Nat->Nat}{c:Cfg}{fab:Fab}
def Cur.elemAt {i m n:Nat}{x:AV}{l:List AV}(g:Cur b H q i x m l)(hm:0<m)(h:l.length=n*m){j:Nat}(y:j<n):
  ∃r gg o,(∀k:IntKind,ix m x (.s (.int k j)) H=some (.ref r gg o,H))/\(∀k,k<m->ld (.ref r gg (o+k)) H=(l[j*m+k]?).map λv=>(v,H))/\lda m (.ref r gg o) H=some (.agg ((l.drop (j*m)).take m),H):=by
 have hs:=g.is hm h;have d:(j+1)*m<=n*m:=zaD _ V;rw [zbv,zbh] at d;rcases g.length hm h with⟨_,z⟩|⟨r,gg,off,e,ex,A,all,rfl,k1,C,D,k4,p,E,F,u⟩
 ·omega
 have w:n*m<=e*m:=zaD _ k4;refine⟨r,gg,off+j*m,λk=>?_,λk hk=>?_,?_⟩
 ·have:=hs.ix (k:=k) (i:=(j:Int)) V V;rw [zar] at this;exact this
 ·rw [fJ p,u,zaB,if_pos V,zaF,zb6]
 ·rw [iH p V,u]
  congr 3
  rw [zcp,zbL,zbZ,zbo V]
def I4 {α:Type}{enc:α->List AV}{m:Nat}(b:∀a,(enc a).length=m)(l:List α)(i:Nat)(a:α)(hi:l[i]?=some a){k:Nat}(hk:k<m):(l.flatMap enc)[i*m+k]?=(enc a)[k]?:=by
 have:=vO b l i a hi;rw [<-this,zaB,if_pos hk,zaF]
def BK(G:Good b H g)(F:iG g f P c fab)(k:fab.l.length<1000)(i:Int):cl 103 [.ref f 0 0,I i] H=some (B (fab.is i),H):=by
 refine bC rfl rfl (ang _ _ _ _ ?_);obtain⟨x,e,h⟩:=G.seq F.1 (i:=0) rfl;have j:=(h.is Z (pY P _)).lnS;by_cases d:0<=i
 ·simp only [xq_,aaR,d,e,j,Fab.is,zaN]
 ·simp only [xq_,aaR,d,Fab.is,zaP]
def iG.port(F:iG g f P c fab){i:Nat}(hi:i<fab.l.length):wO g (P i) c (fab.port i):=by
 have:=F.2.1 i (fab.l[i]) (zab hi);unfold Fab.port;rw [zar,zas,zab hi];exact this
def Yb(G:Good b H g)(F:iG g f P c fab)(z:fab.l.length<1000)(i:Int):
  cl 62 [.ref f 0 0,I i] H=some (.tup [I (fab.waiting i true),I (fab.waiting i false)],H):=by
 refine bC rfl rfl (arI _ _ _ _ ?_);have d:=BK G F z i;cases hi:fab.is i with
 |false=>
  rw [hi] at d;simp only [xq_,ai6,d,zam,Fab.waiting,hi];rfl
 |true=>
  rw [hi] at d;simp only [Fab.is,zah,decide_eq_true_eq] at hi;obtain⟨n,rfl⟩:∃n:Nat,i=n:=⟨i.toNat,V⟩
  have e:n<fab.l.length:=V
  obtain⟨x,A,C⟩:=G.seq F.1 (i:=0) rfl;obtain⟨r,gg,o,D,p,_⟩:=C.elemAt Z (pY P _) e;have q:(List.range fab.l.length)[n]?=some n:=zbz e;have u:=p 1 Z;rw [I4 (m:=4) (λ_=>rfl) _ n n q Z] at u;have v:=p 3 Z;rw [I4 (m:=4) (λ_=>rfl) _ n n q Z] at v;have y:=F.port e;have E:=WJ G.guard y.2.1;have K:=WJ G y.2.2.2;have h:ld (.ref r gg (o+1)) H=some (.ref (P n 1) 0 0,H):=u;have j:ld (.ref r gg (o+2+1)) H=some (.ref (P n 3) 0 0,H):=v;have k:=D .i64;have w:∀req,fab.waiting n req=((fab.port n).qo req).length:=λreq=>by
   unfold Fab.waiting;rw [if_pos (by simp only [Fab.is,zah,decide_eq_true_eq];omega)]
  simp only [xq_,ai6,d,zaf,A,k,h,j,E,K,w,Port.qo]
end
section
variable {b:Nat}{H:ah}{g:bD}{q f:Nat}{P:Nat->Nat->Nat}{c:Cfg}{fab:Fab}
def ajx {e:TypeId}{H:ah}{a b c d:Nat}:bsl e 2 [zP,zP] 2 [(0,.agg [.ref a 0 0,.ref b 0 0]),(1,.agg [.ref c 0 0,.ref d 0 0])] H=some (.sl H.next 0 0 2 2 2 true,H.new (.blk 0 e [.ref a 0 0,.ref b 0 0,.ref c 0 0,.ref d 0 0])):=rfl
def iT(P:Nat->Nat->Nat)(n:Nat):List AV:=(List.range n).flatMap λi=>pF (P i)
def iG.lt(G:Good b H g)(F:iG g f P c fab){i s:Nat}(hi:i<fab.l.length)(hs:s<4):P i s<H.next:=by
 obtain⟨l,r,h⟩:=(F.port hi).some hs;exact G.lt h
def WL(G:Good b H g)(F:iG g f P c fab)(hn:fab.l.length<1000)(h0:fab.l.length≠0):
  cl 57 [.ref f 0 0] H=some (.vs (2*fab.l.length) 2 (iT P fab.l.length),H):=by
 obtain⟨x,T,M⟩:=G.guard.seq F.1 (i:=0) rfl;have W:=(M.is Z (pY P _)).lnS;have A:∀d,∀y∈iT P fab.l.length,∀q,bV q H.next (d+1) y=some y:=λd y w q=>by
  obtain⟨i,hi,w⟩:=za0.1 w;have hi:=zaW.1 hi;simp only [pF,zaj,zaA,or_false] at w;rcases w with rfl|rfl|rfl|rfl <;> · rw [bV];exact if_pos (F.lt G hi V)
 have key:∀k i,i+k=fab.l.length->∀h t,Own H.next h t 2 (iT P i)->Step H.next H.guard h->
   ∃v q,Oi cl [t,x,I fab.l.length,I i] h=some (v,q)/\Own H.next q v 2 (iT P fab.l.length):=by
  intro k
  induction k with
  |zero=>
   intro i hi h t o s;have C:¬(i:Int)<fab.l.length:=V
   rw [aaH];refine⟨t,h,?_,by rw [show fab.l.length=i by omega];exact o⟩;simp only [xq_,C]
  |succ k X=>
   intro i hi h t o s;have C:(i:Int)<fab.l.length:=V
   have h6:(i:Int)+1=((i+1:Nat):Int):=V
   have h7:=wrap_i64 (a:=((i+1:Nat):Int)) V V;obtain⟨r,gg,off,D,_,E⟩:=(M.ext s.next s.low).elemAt Z (pY P _) (j:=i) V;have D:=D .i64;rw [vO (m:=4) (λ_=>rfl) _ i i (zbz V)] at E;let H1:=h.new (.blk 0 101 (pF (P i)));have p:(iT P i).length=(2*i)*2:=by
    rw [iT,pY];omega
   have sb:h.base=H.next:=s.base
   have sn:H.next<=h.next:=s.next
   obtain⟨v',Hj,Q,R,t3⟩:=((o.new (.blk 0 101 (pF (P i)))).new (.blk 0 99 (pF (P i)))).step (e:=99) (by_:=16) (by simp only [eX];omega) (by simp only [jB];omega) Z p (kN (ex:=true) (n:=2) (m:=2) (l:=pF (P i)) rfl) rfl (by unfold most;omega) (by unfold most;omega);have hs:iT P (i+1)=iT P i++pF (P i):=by
    simp only [iT];rw [zcd,zbG,zaC,zdv,zbm]
   rw [<-hs] at R;obtain⟨v,q,K,z⟩:=X (i+1) V Hj v' R ((s.trans ((Step.new _ V).trans (Step.new _ (by simp only [eX];omega)))).trans t3);refine⟨v,q,?_,z⟩;rw [aaH];have ca:∀a b c d,(AV.agg [.ref a 0 0,.ref b 0 0,.ref c 0 0,.ref d 0 0]).cells=[.ref a 0 0,.ref b 0 0,.ref c 0 0,.ref d 0 0]:=λ_ _ _ _=>rfl;have u:h.base<=h.next:=V
   simp only [pF,eX] at E Q;simp only [Nat.reduceAdd,Nat.reduceLeDiff,aO,xq_,hq_,C,D,E,u,ak9,Nat.reduceMul,ajx,Q,cZ,h6,h7,K]
 obtain⟨v,q,K,z⟩:=key fab.l.length 0 V H.guard zN (.inl ⟨rfl,rfl⟩) (Step.refl _ _);refine jD rfl rfl (arC _ _ _ (r:=(v,q)) ?_) ?_
 ·simp only [xq_,amF,T,W];exact K
 ·have p:(iT P fab.l.length).length=(2*fab.l.length)*2:=by
   rw [iT,pY];omega
  have hs:=z.is Z p;obtain⟨c1,c2⟩:=hs.zf;rcases z with⟨rfl,e⟩|⟨r,gg,off,n',aa,ex,ty,all,rfl,k2,k3,k4,k5,k6,k7,k8⟩
  ·rw [e] at p;simp only [zao] at p;omega
  ·have L:n'=2*fab.l.length:=by
    have:=hs.2.2.1;exact this
   subst L;exact oh k2 c2 (jh _ λy w=>A _ y w _)
def abI {α β:Type}{u v:α->β}:∀(l:List α) (i:Nat),(l.flatMap λp=>[u p,v p])[2*i]?=l[i]?.map u/\(l.flatMap λp=>[u p,v p])[2*i+1]?=l[i]?.map v
 |[],i=>by simp
 |a::l,0=>by simp
 |a::l,i+1=>by
  have:=abI (u:=u) (v:=v) l i;rw [show 2*(i+1)=2*i+1+1 by omega]
  simpa using this
def iG.ahQ(F:iG g f P c fab){j:Nat}(p:j<2*fab.l.length):
  ∃l a a',fab.jr[j]?=some l/\((iT P fab.l.length).drop (j*2)).take 2=[.ref a 0 0,.ref a' 0 0]/\g a=some (oz l c.out):=by
 have hi:j / 2<fab.l.length:=V
 have k:=F.port hi;have o:fab.l[j / 2]?=some (fab.port (j / 2:Nat)):=by
  unfold Fab.port;rw [zar,zas,zab hi];rfl
 have b:=vO (m:=4) (enc:=λi=>pF (P i)) (λ_=>rfl) (List.range fab.l.length) (j / 2) (j / 2) (zbz hi);have d:=abI (u:=Port.rq) (v:=Port.an) fab.l (j / 2);rw [o] at d;rcases Nat.mod_two_eq_zero_or_one j with h|h
 ·refine⟨_,P (j / 2) 0,P (j / 2) 1,?_,?_,k.1⟩
  ·have:=d.1;rw [show 2*(j / 2)=j by omega] at this;exact this
  ·have e:((iT P fab.l.length).drop (j*2)).take 2=(((iT P fab.l.length).drop (j / 2*4)).take 4).take 2:=by
    rw [zbZ,show j / 2*4=j*2 by omega];rfl
   rw [e];exact(congrArg (List.take 2) b).trans rfl
 ·refine⟨_,P (j / 2) 2,P (j / 2) 3,?_,?_,k.2.2.1⟩
  ·have:=d.2;rw [show 2*(j / 2)+1=j by omega] at this;exact this
  ·have e:((iT P fab.l.length).drop (j*2)).take 2=((((iT P fab.l.length).drop (j / 2*4)).take 4).drop 2).take 2:=by
    rw [zcp,zbL,zbZ,show j / 2*4+2=j*2 by omega];rfl
   rw [e];exact(congrArg (λl=>(List.drop 2 l).take 2) b).trans rfl
end
section
variable {b:Nat}{H:ah}{g:bD}{q f:Nat}{P:Nat->Nat->Nat}{c:Cfg}{fab:Fab}
def aeI {ls:List (List Pkt)}{j:Nat}{l:List Pkt}(h:ls[j]?=some l):((ls.take (j+1)).map List.length).sum=((ls.take j).map List.length).sum+l.length:=by
 rw [zdH,h];simp
def Rl:∀l:List Port,((l.flatMap λp=>[p.rq,p.an]).map List.length).sum=(l.flatMap λp=>p.rq++p.an).length
 |[]=>rfl
 |p::l=>by
  have:=Rl l;simp only [zaC,zbi,zcS,zaq,this];simp
def rM:∀l:List Port,(l.flatMap λp=>[p.rq,p.an]).length=2*l.length
 |[]=>rfl
 |p::l=>by
  have:=rM l;simp only [zaC,zaq,this,zal,zao];omega
def aoW {ls:List (List Pkt)}{m:Nat}(h:∀l∈ls,l.length<=m):(ls.map List.length).sum<=ls.length*m:=by
 induction ls with
 |nil=>simp
 |cons l ls d=>
  have g:=h l O;have:=d λe b=>h e (by simp [b]);simp only [zax,zbx,zal,zbv,zbh];omega
def WM(G:Good b H g)(F:iG g f P c fab)(z:fab.l.length<1000)(h0:fab.l.length≠0)(A:∀l∈fab.jr,l.length<1000):
  cl 21 [.ref f 0 0] H=some (I fab.under,H):=by
 have C:=WL G.guard F z h0;have p:(iT P fab.l.length).length=(2*fab.l.length)*2:=by
  rw [iT,pY];omega
 have e:∀H,aN H (.vs (2*fab.l.length) 2 (iT P fab.l.length)) 2 (2*fab.l.length) (iT P fab.l.length):=λH=>aN.vs p;have D:=(e H.guard).lnS;have v:fab.jr.length=2*fab.l.length:=rM fab.l;have key:∀k j,j+k=2*fab.l.length->∀d,Step H.next H.guard d->
   ∃m,NM cl [I ((fab.jr.take j).map List.length).sum,.vs (2*fab.l.length) 2 (iT P fab.l.length),I (2*fab.l.length:Nat),I j] d=some (I fab.under,m):=by
  intro k
  induction k with
  |zero=>
   intro j E d s;have o:¬(j:Int)<(2*fab.l.length:Nat):=V
   rw [aau];refine⟨d,?_⟩;have K:((fab.jr.take j).map List.length).sum=fab.under:=by
    rw [zaw V];exact Rl fab.l
   simp only [xq_,o,K]
  |succ k L=>
   intro j E d s;have o:(j:Int)<(2*fab.l.length:Nat):=V
   have M:(j:Int)+1=((j+1:Nat):Int):=V
   have Q:=wrap_i64 (a:=((j+1:Nat):Int)) V V;have w:=(e d).ix (k:=.i64) (i:=(j:Int)) V o;rw [zar] at w;have y:=(e d).lda (i:=j) V;obtain⟨l,a,a',R,T,W⟩:=F.ahQ (j:=j) V;rw [T] at y;have X:=aeI R;have aa:((fab.jr.take (j+1)).map List.length).sum<=(fab.jr.take (j+1)).length*1000:=aoW λl hl=>Nat.le_of_lt (A l (zcB hl));have ab:(fab.jr.take (j+1)).length<=2*fab.l.length:=by rw [zau];omega
   have h8:((((fab.jr.take j).map List.length).sum:Nat):Int)+(l.length:Int)=((((fab.jr.take (j+1)).map List.length).sum:Nat):Int):=V
   have h9:=wrap_i64 (a:=((((fab.jr.take (j+1)).map List.length).sum:Nat):Int)) V V;have G1:Good b (d.new (.blk 0 99 [.ref a 0 0,.ref a' 0 0])) g:=(G.guard.ext s.next s.low).new _;have e3:=abG G1 W;have q:H.next<=d.next:=s.next
   have sb:d.base=H.next:=s.base
   have h:d.base<=d.next:=V
   obtain⟨m,u⟩:=L (j+1) V _ (s.trans (Step.new (.blk 0 99 [.ref a 0 0,.ref a' 0 0]) q));refine⟨m,?_⟩;rw [aau];simp only [Nat.reduceAdd,aO,xq_,hq_,o,w,y,h,e3,cZ,h8,h9,M,Q,u]
 obtain⟨m,u⟩:=key (2*fab.l.length) 0 V H.guard (Step.refl _ _);refine jD rfl rfl (aq1 _ _ _ (r:=(I fab.under,m)) ?_) jo;simp only [xq_,al9,C,D];exact u
end
section
variable {b:Nat}{H:ah}{g:bD}{A:Adr}{m:bW}
structure bW.fine(m:bW):Prop where
 ok:m.c.ok=true
 aB:(m.aB.length:Int)=m.c.aB
 fab:m.fab.l.length=m.aB.length
 ops:∀n∈m.aB,n.bQ.ops.length<1000/\n.bQ.bH.length<1000
 jr:∀l∈m.fab.jr,l.length<1000
 aI:∀n∈m.aB,n.aI.data.length<1000000000
 ins:∀p∈m.fab.l,p.rin.length<1000/\p.ain.length<1000
def xX(N:Nat->Nat->Nat)(n:Nat):(qh N n).length=n*1:=by simp [qh]
def I5 {N:Nat->Nat->Nat}{n i:Nat}(h:i<n):(qh N n)[i]?=some (.ref (N i 0) 0 0):=by
 simp [qh,zbz h]
def abJ(G:Good b H g)(M:gJ g A m)(hm:m.fine):cl 28 [.ref A.iI 0 0] H=some (I m.left,H):=by
 have D:=uK hm.ok;refine bC rfl rfl (aq8 _ _ _ ?_);obtain⟨x,E,w⟩:=G.seq M.iI (i:=10) rfl;have F:=(w.is Z (xX _ _)).lnS;have h:∀j,j<=m.aB.length->-(j*1000:Int)<=((m.aB.take j).map λn=>n.bQ.left).sum/\((m.aB.take j).map λn=>n.bQ.left).sum<=j*1000:=by
  intro j
  induction j with
  |zero=>intro _;simp
  |succ j p=>
   intro y;have i1:=p V;have d:m.aB[j]?=some (m.aB[j]' V):=zab V;have i2:=hm.ops _ (zan d);have i3:-1000<=(m.aB[j]' V).bQ.left/\(m.aB[j]' V).bQ.left<=1000:=by
    unfold Proc.left;omega
   rw [zdH,d];simp only [zcT,zbi,zax,zbJ,zcS,zbx,List.sum_nil];omega
 have key:∀k j,j+k=m.aB.length->N7 cl [I ((m.aB.take j).map λn=>n.bQ.left).sum,x,I m.aB.length,I j] H=some (I m.left,H):=by
  intro k
  induction k with
  |zero=>
   intro j y;have q:¬(j:Int)<m.aB.length:=V
   rw [aax];have K:((m.aB.take j).map λn=>n.bQ.left).sum=m.left:=by
    rw [zaw V];rfl
   simp only [xq_,q,K]
  |succ k p=>
   intro j y;have q:(j:Int)<m.aB.length:=V
   have hn:=hm.aB;have L:=D.aB;have Q:(j:Int)+1=((j+1:Nat):Int):=V
   have R:=wrap_i64 (a:=((j+1:Nat):Int)) V V;obtain⟨r,gg,o,u,e,_⟩:=w.elemAt Z (xX _ _) (j:=j) V;have u:=u .i64;have e:=e 0 Z;rw [zbO,zbr,zbr,I5 V] at e;have d:m.aB[j]?=some (m.aB[j]' V):=zab V;have z:=M.bF j _ d;have C:=hm.ops _ (zan d);have T:=G.load z.1 (i:=1) rfl;have W:=OJ G z.2.2.1 C.1 C.2;have X:((m.aB.take j).map λn=>n.bQ.left).sum+(m.aB[j]' V).bQ.left=((m.aB.take (j+1)).map λn=>n.bQ.left).sum:=by
    rw [zdH,d];simp only [zcT,zbi,zax,zbJ,zcS,zbx,List.sum_nil,Int.add_zero]
   have aa:=h (j+1) V;have h9:=wrap_i64 (a:=((m.aB.take (j+1)).map λn=>n.bQ.left).sum) V V;have v:=p (j+1) V;rw [aax];simp only [xq_,q,u,e,T,W,cZ,X,h9,Q,R,v]
 have v:=key m.aB.length 0 V;simp only [xq_,amh,E,F];exact v
end
def JG {n:Nat}{p:Nat->Bool}{i:Nat}(hi:i<n)(h:∀j,j<i->p j=true)(b:p i=false):(List.range n).all p=false:=by
 rw [zdl];exact⟨i,zaW.2 hi,by rw [b];simp⟩
def OQ {n:Nat}{p:Nat->Bool}(h:∀j,j<n->p j=true):(List.range n).all p=true:=by
 rw [zaZ];exact λi hi=>h i (zaW.1 hi)
section
variable {b:Nat}{H:ah}{g:bD}{A:Adr}{m:bW}
def abK(hm:m.fine)(i:Int)(req:Bool):m.fab.waiting i req<1000:=by
 unfold Fab.waiting;split
 ·rename_i h;simp only [Fab.is,zah,decide_eq_true_eq] at h;have b:i.toNat<m.fab.l.length:=V
  have e:m.fab.port i=m.fab.l[i.toNat]:=by
   unfold Fab.port;rw [zas,zab b];rfl
  have:=hm.ins _ (zc4 b);rw [e];cases req
  ·exact this.2
  ·exact this.1
 ·omega
def WO(G:Good b H g)(M:gJ g A m)(hm:m.fine):cl 29 [.ref A.iI 0 0] H=some (B m.quiet,H):=by
 have Bd:=uK hm.ok;have hn:=hm.aB;have af:=Bd.aB;have ag:=hm.fab;obtain⟨x,hx,cu⟩:=G.guard.seq M.iI (i:=10) rfl;have e2:=(cu.is Z (xX _ _)).lnS;have key:∀k j,j+k=m.aB.length->(∀i,i<j->(!m.busy i)=true)->∀h,Step H.next H.guard h->
   ∃z,Dv cl [.ref A.iI 0 0,x,I m.aB.length,I j] h=some (B m.quiet,z):=by
  intro k
  induction k with
  |zero=>
   intro j hj L h s;have v:¬(j:Int)<m.aB.length:=V
   have C:=G.guard.ext s.next s.low
   have e1:=C.load M.iI (i:=0) rfl;have p:=WM C M.fab V V  hm.jr;have W:m.quiet=decide (m.fab.under=0):=by
    unfold bW.quiet;rw [OQ λi hi=>L i V,zaN]
   have hz:decide ((m.fab.under:Int)=0)=decide (m.fab.under=0):=O
   rw [aay];refine⟨h,?_⟩;simp only [xq_,v,e1,p,W,hz]
  |succ k ih=>
   intro j hj L h s;have v:(j:Int)<m.aB.length:=V
   have h6:(j:Int)+1=((j+1:Nat):Int):=V
   have h7:=wrap_i64 (a:=((j+1:Nat):Int)) V V;have C:=G.guard.ext s.next s.low
   obtain⟨r,gg,o,w,q,_⟩:=(cu.ext s.next s.low).elemAt Z (xX _ _) (j:=j) V;have w:=w .i64;have q:=q 0 Z;rw [zbO,zbr,zbr,I5 V] at q;obtain⟨n,X⟩:∃n,m.aB[j]?=some n:=⟨_,zab V⟩
   have Nj:=M.bF j _ X;have aa:=zan X;have p:=aeH C Nj.1 (hm.aI _ aa);obtain⟨dl,ab⟩:∃dl:bM,dl=if n.aI.step=0 then bM.zero else n.aI:=⟨_,rfl⟩
   rw [<-ab] at p;let e:=dl.av;have sn:H.next<=h.next:=s.next
   have sb:h.base=H.next:=s.base
   have d:h.base<=h.next:=V
   have Q:=C.new (.blk 0 44 e);have sj:=s.trans (Step.new (.blk 0 44 e) sn);have D:=Q.load M.iI (i:=0) rfl;have F:=Yb Q M.fab V j;have R:=Q.load Nj.1 (i:=1) rfl;have y:=Rk Q Nj.2.2.1;have w1:=abK hm j true;have w2:=abK hm j false;have h9:=wrap_i64 (a:=((m.fab.waiting j true+m.fab.waiting j false:Nat):Int)) V V;have h8:(m.fab.waiting j true:Int)+(m.fab.waiting j false:Int)=((m.fab.waiting j true+m.fab.waiting j false:Nat):Int):=V
   have hb:m.busy j=(!decide (n.aI.step=0) || n.bQ.eG || decide (0<m.fab.waiting j true+m.fab.waiting j false)):=by
    unfold bW.busy;rw [X]
   have cd:(AV.agg e).cells=e:=rfl;have ad:e.all AV.aP=true:=bG _;have ai:e.length=9:=rfl;have E:Dv cl [.ref A.iI 0 0,x,I m.aB.length,I j] h=if m.busy j=true then some (B false,h.new (.blk 0 44 e)) else Dv cl [.ref A.iI 0 0,x,I m.aB.length,I (j+1:Nat)] (h.new (.blk 0 44 e)):=by
    rw [aay,hb];simp only [e] at D F R y;by_cases T:n.aI.step=0
    ·cases pb:n.bQ.eG with
     |true=>
      rw [pb] at y;simp only [Nat.reduceAdd,aO,xq_,hq_,v,w,q,p,T,zaf,d,D,F,R,y,e,zbI,zc1]
     |false=>
      rw [pb] at y;by_cases hw:0<m.fab.waiting j true+m.fab.waiting j false
      ·have u:(0:Int)<((m.fab.waiting j true+m.fab.waiting j false:Nat):Int):=V
       simp only [Nat.reduceAdd,aO,xq_,hq_,v,w,q,p,T,zaf,d,D,F,R,y,e,zbI,hw,u,cZ,h8,h9]
      ·have u:¬(0:Int)<((m.fab.waiting j true+m.fab.waiting j false:Nat):Int):=V
       simp only [Nat.reduceAdd,aO,xq_,hq_,v,w,q,p,T,zaf,d,D,F,R,y,e,zbI,hw,u,cZ,h8,h9,h6,h7]
    ·simp only [Nat.reduceAdd,aO,xq_,hq_,v,w,q,p,T,zam,d,D,F,e,zc1]
   rw [E];cases K:m.busy j with
   |true=>
    have W:m.quiet=false:=by
     unfold bW.quiet;rw [JG (i:=j) V L (by rw [K];rfl),zaP]
    exact⟨_,by rw [W];rfl⟩
   |false=>
    obtain⟨z,r1⟩:=ih (j+1) V (λi hi=>by
     by_cases ae:i=j
     ·subst ae;rw [K];rfl
     ·exact L i V) _ sj
    exact⟨z,r1⟩
 obtain⟨z,r1⟩:=key m.aB.length 0 V (λi hi=>V) H.guard (Step.refl _ _);refine jD rfl rfl (aq9 _ _ _ (r:=(B m.quiet,z)) ?_) jo;simp only [xq_,amj,hx,e2];exact r1
end
section
variable {b:Nat}{H:ah}{g:bD}{A:Adr}{m:bW}
def abL(G:Good b H g)(M:gJ g A m)(hm:m.fine):cl 61 [.ref A.iI 0 0] H=some (B (m.quiet && decide (m.left=0)),H):=by
 refine bC rfl rfl (arG _ _ _ ?_);have d:=WO G M hm;have h:=abJ G M hm;cases e:m.quiet with
 |true=>
  rw [e] at d;simp only [xq_,ai5,d,h,zaN]
 |false=>
  rw [e] at d;simp only [xq_,ai5,d,zaP]
def UE(G:Good b H g)(M:gJ g A m)(hm:m.fine)(h:m.quiet=true)(i:m.left=0)(most:Int)(x:AV):cl 27 [.ref A.iI 0 0,I most,x] H=some (I 0,H):=by
 have e:=abL G M hm;rw [h,i] at e;have j:(true && decide ((0:Int)=0))=true:=rfl;rw [j] at e;refine bC rfl rfl (amf _ _ _ _ _ ?_);rw [aiW,NZ];by_cases d:0<most
 ·simp only [xq_,d,e,zaf]
 ·simp only [xq_,d]
end
def mg(ps:List (List Opn)):Nat:=(ps.map List.length).sum
def qN(c:Cfg)(ps:List (List Opn)):Int:=40*((mg ps:Int)+1)*(c.aB+6)
def Yc {ps:List (List Opn)}{j:Nat}{l:List Opn}(h:ps[j]?=some l):mg (ps.take (j+1))=mg (ps.take j)+l.length:=by
 unfold mg;rw [zdH,h];simp only [zcT,zbi,zax,zbJ,zcS,zbx,List.sum_nil,zbr]
def aeJ {ps:List (List Opn)}(j:Nat):mg (ps.take j)<=mg ps:=by
 have:mg ps=mg (ps.take j)+mg (ps.drop j):=by
  unfold mg;rw [<-zcS,<-zbi,zcu]
 omega
def WQ(H:ah)(c:Cfg)(hc:0<=c.aB/\c.aB<=1000){x:AV}{ps:List (List Opn)}(u:WI H x ps)(X:ps.length<1000000)(ht:mg ps<1000000):cl 26 [.agg c.av,x] H=some (I (qN c ps),H):=by
 have e:=u.iZ (H':=H.guard.new (.blk 0 26 c.av)) (by rw [eX,Ai];omega) λr w=>by rw [bJ (by rw [Ai];exact w),ap4]
 obtain⟨cells,b,y⟩:=e;have z:cells.length=ps.length:=by have:=b.1;omega
 have A:=b.lnS;have C:c.av[0]?=some (I c.aB):=rfl;have key:∀k j,j+k=ps.length->NQ cl [.ref H.next 0 0,I (mg (ps.take j)),x,I ps.length,I j] (H.guard.new (.blk 0 26 c.av))=some (I (qN c ps),H.guard.new (.blk 0 26 c.av)):=by
  intro k
  induction k with
  |zero=>
   intro j D;have d:¬(j:Int)<ps.length:=V
   have E:ps.take j=ps:=zaw V;have w1:=wrap_i64 (a:=(mg ps:Int)+1) V V;have F:=wrap_i64 (a:=40*((mg ps:Int)+1)) V V;have G:=wrap_i64 (a:=c.aB+6) V V;have K:0<=40*((mg ps:Int)+1)*(c.aB+6):=zb0 V V;have L:40*((mg ps:Int)+1)*(c.aB+6)<=40000000*1006:=zbN V V V V;have M:=wrap_i64 (a:=40*((mg ps:Int)+1)*(c.aB+6)) V V;rw [aaw,E];simp only [xq_,hq_,d,cZ,je,w1,F,G,M,C,qN]
  |succ k Q=>
   intro j D;have d:(j:Int)<ps.length:=V
   have R:(j:Int)+1=((j+1:Nat):Int):=V
   have T:=wrap_i64 (a:=((j+1:Nat):Int)) V V;have o:=b.ix (k:=.i64) (i:=(j:Int)) V d;rw [zar] at o;have p:=b.ld (i:=j) V;obtain⟨v,hv⟩:∃v,cells[j]?=some v:=⟨_,zab V⟩
   obtain⟨l,q⟩:∃l,ps[j]?=some l:=⟨_,zab V⟩
   rw [hv] at p;have W:=(y j v l hv q).1.lnS;have h8:=Yc q;have h9:=aeJ (ps:=ps) (j+1);have g:(mg (ps.take j):Int)+(l.length:Int)=(mg (ps.take (j+1)):Int):=V
   have h:=wrap_i64 (a:=(mg (ps.take (j+1)):Int)) V V;have m:=Q (j+1) V;rw [aaw];simp only [xq_,d,o,p,W,cZ,g,h,R,T,m]
 refine jD rfl rfl (aq7 _ _ _ _ (r:=(I (qN c ps),H.guard.new (.blk 0 26 c.av))) ?_) jo;have m:=key ps.length 0 V;simp only [Nat.reduceLT,xq_,amd,aG (fD c),A];exact m
def WI.zN {H:ah}:WI H zN []:=⟨[],aN.nil,λi v l h=>by simp at h⟩
def aeK {c:Cfg}(h:c.ok=true){ps:List (List Opn)}(d:c.vT ps=true):(bW.new c ps).fine:=by
 have k:=uK h;obtain⟨g,j⟩:=FZ d;have bF:∀n∈(bW.new c ps).aB,∃i l,l∈ps/\n=.new c i l:=λn e=>by
  simp only [bW.new,List.mem_mapIdx] at e;obtain⟨i,hi,rfl⟩:=e;exact⟨i,_,zc4 hi,rfl⟩
 have ajy:∀p∈(bW.new c ps).fab.l,p=.zero:=λp d=>by
  simp only [bW.new,Fab.new] at d;exact zbY d
 refine⟨h,?_,?_,λn e=>?_,λl b=>?_,λn e=>?_,λp d=>?_⟩
 ·simp only [bW.new,zcc];exact g
 ·simp only [bW.new,Fab.new,zcc,zcb];omega
 ·obtain⟨i,l,b,rfl⟩:=bF n e;have:=j l b;exact⟨by show l.length<1000;omega,by show(0:Nat)<1000;omega⟩
 ·simp only [Fab.jr,za0] at b;obtain⟨p,d,b⟩:=b;rw [ajy p d] at b;simp only [Port.zero,zaj,zaA,or_false,or_self] at b;rw [b];decide
 ·obtain⟨i,l,b,rfl⟩:=bF n e;show(0:Nat)<_;omega
 ·rw [ajy p d];exact⟨Z,Z⟩
def Yd:Cfg:=⟨1,1,1,1,1,1,1,[]⟩
def ajz(H:ah):cl 31 [] H=some (B true,H):=by
 have hc:Yd.ok=true:=Z
 have p:Yd.vT [[]]=true:=Z
 have h:Yd.av=[I 1,I 1,I 1,I 1,I 1,I 1,I 1,zN]:=by simp [Yd,Cfg.av,dat,gI]
 let H1:=H.guard.new (.blk 0 26 Yd.av);let d:=H1.new (.blk 0 28 [zN]);have j:WI d (.sl (H.next+1) 0 0 1 1 1 true) [[]]:=⟨[zN],kN (n:=1) (m:=1) (l:=[zN]) rfl,λi v l a b=>by
  match i with
  |0=>cases a;cases b;exact⟨aN.nil,λ_=>rfl⟩
  |i+1=>cases a⟩
 obtain⟨k,A,g,q,M,w⟩:=Lm d (by simp only [d,H1,jB,eX,ap3,Ai];omega) Yd hc j p;have y:=aeK hc p;have z:=UE M.good w y Z Z  9 zN;let e:=k.new (.blk 0 28 [zN]);have o:WI e (.sl k.next 0 0 1 1 1 true) [[]]:=⟨[zN],kN (n:=1) (m:=1) (l:=[zN]) rfl,λi v l a b=>by
  match i with
  |0=>cases a;cases b;exact⟨aN.nil,λ_=>rfl⟩
  |i+1=>cases a⟩
 have u:=WQ e Yd Z o Z Z;have C:qN Yd [[]]=280:=Z
 rw [C] at u;have D:k.get H.next=.blk 0 26 Yd.av:=by
  rw [M.same _ (by simp only [d,H1,eX,Ai];omega),bJ (by simp only [H1,eX,Ai];omega)];exact aZ rfl
 have E:=jJ D;have ev:bd 26 [(0,I 1),(1,I 1),(2,I 1),(3,I 1),(4,I 1),(5,I 1),(6,I 1)]=some (.agg Yd.av):=by
  rw [h];simp only [xq_,ale,jf,fK,aiA];rfl
 have F:qH Tryz.prog .eql 48 (I 0) (I 0)=some (B true):=J
 have G:qH Tryz.prog .neq 62 (.ref A.iI 0 0) (.s (.pointer none))=some (B true):=J
 have K:∀H,bs 29 1 [(0,zN)] H=some (.sl H.next 0 0 1 1 1 true,H.new (.blk 0 28 [zN])):=λH=>by
  exact(aqz Z).trans rfl
 refine jD rfl rfl (arb _ _ (r:=(B true,e)) ?_) jo;have ca:(AV.agg Yd.av).cells=Yd.av:=rfl;have L:Yd.av.length=8:=rfl;simp only [d,H1] at q;simp only [Nat.reduceAdd,aO,xq_,hq_,aml,ev,ca,L,K,q,F,G,z,E,u,e]
def dw(v n:Int):Int:=if n<1 then 0 else v % n
def atM(l:List Int)(i:Int):Int:=if i<l.length then l.getD i.toNat 0 else 0
def nG {v n:Int}(h:1<=n):0<=dw v n/\dw v n<n:=by
 unfold dw;rw [if_neg V];exact⟨zch _ V,zct _ V⟩
def aeL(v n:Int)(h:1<=n):v % n=if v.tmod n<0 then v.tmod n+n else v.tmod n:=by
 have d:=Int.tmod_eq_emod (a:=v) (b:=n);have e:=zch v (b:=n) V;have g:=zct v (b:=n) V;rw [d];rcases Decidable.em (0<=v∨n ∣ v) with hv|hv
 ·rw [if_pos hv];split <;> omega
 ·rw [if_neg hv];split <;> omega
def aeM(v n:Int)(h:1<=n):-n<v.tmod n/\v.tmod n<n:=by
 have d:=Int.tmod_eq_emod (a:=v) (b:=n);have e:=zch v (b:=n) V;have g:=zct v (b:=n) V;rw [d];rcases Decidable.em (0<=v∨n ∣ v) with hv|hv
 ·rw [if_pos hv];omega
 ·rw [if_neg hv];omega
def qc(H:ah)(v n:Int)(i:n<=9223372036854775807):cl 33 [I v,I n] H=some (I (dw v n),H):=by
 refine bC rfl rfl (arf _ _ _ _ ?_);by_cases g:n<1
 ·simp only [xq_,aeb,g,dw]
 ·have h:=λ(k:IntKind) (t:TypeId)=>rC (P:=Tryz.prog) (k:=k) (t:=t) (a:=v) (b:=n) V;have d:=aeL v n V;have j:=aeM v n V;by_cases e:v.tmod n<0
  ·have w:=wrap_i64 (a:=v.tmod n+n) V V;rw [if_pos e] at d;simp only [xq_,aeb,Oa,g,h,e,cZ,w,dw,d]
  ·rw [if_neg e] at d;simp only [xq_,aeb,Oa,g,h,e,dw,d]
def ajA(H:ah){x:AV}{l:List Int}(d:aN H x 1 l.length (l.map I)){i:Int}(h0:0<=i):cl 37 [x,I i] H=some (I (atM l i),H):=by
 refine bC rfl rfl (ari _ _ _ _ ?_);have j:=d.lnS;by_cases h:i<l.length
 ·have o:=d.ix (k:=.i64) h0 h;have m:=d.ld (i:=i.toNat) V;have b:i.toNat<l.length:=V
  rw [zaH,zab b] at m;have g:ld (eH x i.toNat) H=some (I l[i.toNat],H):=m;have e:atM l i=l[i.toNat]:=by
   unfold atM;rw [if_pos h,zas,zab b];rfl
  simp only [xq_,aiY,j,h,o,g,e]
 ·simp only [xq_,aiY,j,h,atM]
def aN.upto {H:ah}{x:AV}{m n:Nat}{cells:List AV}(h:aN H x m n cells){k:IntKind}{hi:Int}(h0:0<=hi)(z:hi<=n):∃y,slS m x none (some (.s (.int k hi))) none=some y/\aN H y m hi.toNat (cells.take (hi.toNat*m)):=by
 obtain⟨i,h⟩:=h;have e:hi.toNat*m<=n*m:=zaD _ V;cases x with
 |sl r g off d len o ex=>
  obtain⟨rfl,rfl,⟨p,hc⟩,q,all,u,j,w⟩:=h;refine⟨_,VP h0 V,by rw [zau,i];omega,rfl,rfl,⟨p,V⟩,q,all,u,V,?_⟩;rw [w,zbZ,zbo e]
 |vs k' d cs=>
  obtain⟨rfl,rfl,rfl⟩:=h;refine⟨.vs hi.toNat d (cs.take (hi.toNat*d)),?_,by rw [zau,i];omega,rfl,rfl,rfl⟩;simp only [slS,ji,h0,if_true];rw [if_pos ⟨trivial,zaY _,V⟩];simp
 |s v=>
  cases v with
  |slice a b c=>
   cases a with
   |none=>
    obtain⟨rfl,rfl,rfl⟩:=h;have j:hi=0:=V
    subst j;refine⟨zN,by simp [slS,ji],?_⟩;refine⟨?_,rfl,rfl,rfl⟩;simp
   |some a=>exact h.elim
  |_=>exact h.elim
 |_=>exact h.elim
def ajB(H:ah){x:AV}{l:List Int}(g:aN H x 1 l.length (l.map I))(j:l.length<1000000000):cl 68 [x] H=some (dat l,H):=by
 by_cases b:l=[]
 ·subst b;have d:app 3 1 8 zN x H.guard=some (zN,H.guard):=by
   obtain⟨h,i⟩:=g.guard.zf;simp only [app,h,i];rfl
  refine jD rfl rfl (amM _ _ _ (r:=(zN,H.guard)) ?_) (by rw [dat,gI];exact jo);simp only [xq_,ai8,d]
 ·have d:=Nw (e:=3) (by_:=8) g.guard (yH l) (λe=>b (zat e)) (by unfold most;omega) (by unfold most;omega);refine jD rfl rfl (amM _ _ _ (r:=(.sl H.next 0 0 1 l.length l.length false,H.guard.new (.blk 0 (3+iC) (l.map I)))) ?_) (Lp b (zac _) (aZ rfl));simp only [xq_,ai8,d]
def aoX(H:ah){x:AV}{l:List Int}(d:aN H x 1 l.length (l.map I)){n:Int}(h0:0<=n)(m:n<1000000000):cl 36 [x,I n] H=some (dat (l.take n.toNat),H):=by
 refine bC rfl rfl (arh _ _ _ _ ?_);have e:=d.lnS;obtain⟨y,g,b⟩:=d.upto (k:=.i64) (hi:=min (l.length:Int) n) V V;have i:(min (l.length:Int) n).toNat=(l.take n.toNat).length:=by rw [zau];omega
 rw [i,zbO,<-zcJ,zau] at b;have hm:l.take (min n.toNat l.length)=l.take n.toNat:=by
  rcases Nat.le_total n.toNat l.length with h|h
  ·rw [zbo h]
  ·rw [Nat.min_eq_right h,zaw (zac _),zaw h]
 rw [hm,<-zau] at b;have j:=ajB H b (by rw [zau];omega);simp only [xq_,amo,e,ZG,g,j]
def lg.cfg(s:lg)(zi:List Int):Cfg:=
 ⟨1+dw s.aB 4,1+dw s.aY 4,1+dw s.bI 2,1+dw s.sets 2,1+dw s.ways 2,1+dw s.out 3,1+dw s.inn 3,zi.take ((1+dw s.aY 4)*(1+dw s.bI 2)).toNat⟩
def xY {x:AV}{l:List Int}(h:aN ah.empty x 1 l.length (l.map I))(H:ah):aN H x 1 l.length (l.map I):=
 h.iZ (zaY _) λr _ b=>absurd b (zcU r)
def ig(v:Int){n:Int}(h:1<=n)(b:n<=1000):1<=1+dw v n/\1+dw v n<=n/\IntKind.wrap .i64 (1+dw v n)=1+dw v n:=by
 have:=nG (v:=v) h;exact⟨V,V,wrap_i64 V V⟩
def ahR(s:lg)(zi:List Int):(s.cfg zi).ok=true:=by
 have b:=ig s.aB (n:=4) V V;have d:=ig s.aY (n:=4) V V;have e:=ig s.bI (n:=2) V V;have g:=ig s.sets (n:=2) V V;have h:=ig s.ways (n:=2) V V;have i:=ig s.out (n:=3) V V;have j:=ig s.inn (n:=3) V V;have hm:0<=(1+dw s.aY 4)*(1+dw s.bI 2):=zb0 V V;simp only [Cfg.ok,lg.cfg,zah,zau];obtain⟨k,w,_⟩:=b;obtain⟨m,y,_⟩:=d;obtain⟨o,A,_⟩:=e;obtain⟨p,C,_⟩:=g;obtain⟨q,D,_⟩:=h;obtain⟨u,E,_⟩:=i;obtain⟨v,F,_⟩:=j;generalize (1+dw s.aY 4)*(1+dw s.bI 2)=z at hm ⊢;exact⟨⟨⟨⟨⟨⟨⟨⟨decide_eq_true k,decide_eq_true V⟩,⟨decide_eq_true m,decide_eq_true V⟩⟩,⟨decide_eq_true o,decide_eq_true V⟩⟩,⟨decide_eq_true p,decide_eq_true V⟩⟩,⟨decide_eq_true q,decide_eq_true V⟩⟩,⟨decide_eq_true u,decide_eq_true V⟩⟩,⟨decide_eq_true v,decide_eq_true V⟩⟩,decide_eq_true V⟩
def abM(c:Cfg):Frz 9 (.agg c.av):=ny λx b=>by
 simp only [Cfg.av,zaj,zaA,or_false] at b;rcases b with rfl|rfl|rfl|rfl|rfl|rfl|rfl|rfl <;> first|exact iD|exact vS
def Rn(H:ah){s:lg}{zi zw zk za zv:List Int}(h:s.Ok zi zw zk za zv)(hi:aN ah.empty s.init 1 zi.length (zi.map I))(hc:s.init.aP=true/\s.who.aP=true/\s.kinds.aP=true/\s.kU.aP=true/\s.bH.aP=true):
  cl 7 [.agg s.cells] H=some (.agg (s.cfg zi).av,H):=by
 refine dD rfl rfl (atT _ _ _) ?_ (abM _);have j:=ig s.aB (n:=4) V V;have m:=ig s.aY (n:=4) V V;have o:=ig s.bI (n:=2) V V;have p:=ig s.sets (n:=2) V V;have q:=ig s.ways (n:=2) V V;have u:=ig s.out (n:=3) V V;have y:=ig s.inn (n:=3) V V;have hm:0<=(1+dw s.aY 4)*(1+dw s.bI 2):=zb0 V V;have z:(1+dw s.aY 4)*(1+dw s.bI 2)<=4*2:=zbN V V V V;have w:=wrap_i64 (a:=(1+dw s.aY 4)*(1+dw s.bI 2)) V V;have A:=λH v=>qc H v 4 V;have C:=λH v=>qc H v 2 V;have D:=λH v=>qc H v 3 V;have E:=λH=>aoX H (xY hi H) hm V;have g:s.cells.all AV.aP=true:=by
  simp only [lg.cells,zcK,zdA,hc,zcL];rfl
 simp only [lg.cells] at g;have ev:∀a b c d e f k:Int,bd 26 [(0,I a),(1,I b),(2,I c),(3,I d),(4,I e),(5,I f),(6,I k)]=some (.agg [I a,I b,I c,I d,I e,I f,I k,zN]):=λ_ _ _ _ _ _ _=>by
  simp only [xq_,ale,jf,fK,aiA];rfl
 have F:zN.cells=[zN]:=rfl;have i:zN.aP=true:=rfl;simp only [Nat.reduceLT,Nat.reduceAdd,aO,xq_,hq_,atn,aG g,lg.cells,A,C,D,cZ,j,m,o,p,q,u,y,ev,je,w,E,i];rfl
def qj(z:Int):Int:=[1,2,3,1,2,1,4].getD (dw z 7).toNat 0
def abN(c:Cfg)(zk za zv:List Int)(i:Nat):Opn:=
 ⟨qj (atM zk i),dw (atM za i) (c.aY*c.bI),if qj (atM zk i)=2∨qj (atM zk i)=3 then atM zv i else 0⟩
def jH(c:Cfg)(zw zk za zv:List Int)(ps:List (List Opn))(i:Nat):List (List Opn):=
 let n:=(dw (atM zw i) c.aB).toNat
 if(ps.getD n []).length<24 then ps.set n (ps.getD n []++[abN c zk za zv i]) else ps
def nH(c:Cfg)(zw zk za zv:List Int):Nat->List (List Opn)
 |0=>List.replicate c.aB.toNat []
 |i+1=>jH c zw zk za zv (nH c zw zk za zv i) i
def qF(c:Cfg)(zw zk za zv:List Int)(most:Nat):List (List Opn):=nH c zw zk za zv (min zw.length most)
def Ro(ps:List (List Opn)):List Cell:=ps.map λl=>.seq 3 (l.flatMap Opn.av)
def pG(c:Cfg)(zw zk za zv:List Int):∀i,(nH c zw zk za zv i).length=c.aB.toNat
 |0=>by simp [nH]
 |i+1=>by
  simp only [nH,jH];split
  ·rw [zcf,pG c zw zk za zv i]
  ·exact pG c zw zk za zv i
def ahS {H:ah}{r n j:Nat}{ty:TypeId}{xs:List AV}(b:H.get r=.blk 0 ty xs)(h:j<n){k:IntKind}:ix 1 (.sl r 0 0 1 n n true) (.s (.int k j)) H=some (.ref r 0 j,H):=by
 have d:(0:Int)<=j/\(j:Int)<n:=V
 simp [ix,kS,ixO,h,bT,b,akI,gu.gen]
def Ye(z:Int):qj z=1∨qj z=2∨qj z=3∨qj z=4:=by
 have h:=nG (v:=z) (n:=7) V;unfold qj;generalize hk:(dw z 7).toNat=k;have:k<7:=V
 match k,this with
 |0,_|1,_|2,_|3,_|4,_|5,_|6,_=>simp
def WR {ps:List (List Opn)}{j:Nat}(h:j<ps.length):(Ro ps)[j]?=some (.seq 3 ((ps.getD j []).flatMap Opn.av)):=by
 simp [Ro,zas,zab h]
def aeN {ps:List (List Opn)}{j:Nat}{l:List Opn}:(Ro ps).set j (.seq 3 (l.flatMap Opn.av))=Ro (ps.set j l):=by
 simp [Ro,List.map_set]
section
variable {H:ah}{s:lg}{zi zw zk za zv:List Int}
def UF {C:aF}(hCa:C 37=cl 37)(hCw:C 33=cl 33)(h:s.Ok zi zw zk za zv)(hi:aN ah.empty s.init 1 zi.length (zi.map I))(hw:aN ah.empty s.who 1 zw.length (zw.map I))(hk:aN ah.empty s.kinds 1 zk.length (zk.map I))(ha:aN ah.empty s.kU 1 za.length (za.map I))(hv:aN ah.empty s.bH 1 zv.length (zv.map I))
  {c:Cfg} (hc:c.ok=true) {p q r n:Nat} {ty ty':TypeId} (hp:p<H.next) (hq:q<H.next) (gp:H.get p=.blk 0 ty s.cells) (gq:H.get q=.blk 0 ty' c.av) {b:Nat} {ps:List (List Opn)} (G:Good b H (upd qE r (Ro ps))) (hb:H.base<=b) (hn:ps.length=n) (hnc:(n:Int)=c.aB)
  {i:Nat} {mo:Int} (him:(i:Int)<mo) (hm:mo<=1000) (hil:i<zw.length) (hz:∀j,j<n->ps.getD j []=[]->ld (.ref r 0 j) H=some (zN,H)):
  ∃H',IL C [I mo,.ref p 0 0,.ref q 0 0,.sl r 0 0 1 n n true,I i] H=IL C [I mo,.ref p 0 0,.ref q 0 0,.sl r 0 0 1 n n true,I (i+1:Nat)] H'/\Good b H' (upd qE r (Ro (jH c zw zk za zv ps i)))/\Step b H H'/\(∀j,j<n->(jH c zw zk za zv ps i).getD j []=[]->ld (.ref r 0 j) H'=some (zN,H')):=by
 have Bd:=uK hc;have e8:ld (.ref p 0 8) H=some (s.who,H):=by rw [fJ gp];rfl
 have e9:ld (.ref p 0 9) H=some (s.kinds,H):=by rw [fJ gp];rfl
 have e10:ld (.ref p 0 10) H=some (s.kU,H):=by rw [fJ gp];rfl
 have e11:ld (.ref p 0 11) H=some (s.bH,H):=by rw [fJ gp];rfl
 have f0:ld (.ref q 0 0) H=some (I c.aB,H):=by rw [fJ gq];rfl
 have f1:ld (.ref q 0 1) H=some (I c.aY,H):=by rw [fJ gq];rfl
 have f2:ld (.ref q 0 2) H=some (I c.bI,H):=by rw [fJ gq];rfl
 have w0:=λH=>(xY hw H).lnS;have h1:(i:Int)<zw.length:=by omega
 have a1:=λH=>ajA H (xY hk H) (i:=(i:Int)) (by omega);have a2:=λH=>ajA H (xY ha H) (i:=(i:Int)) (by omega);have a3:=λH=>ajA H (xY hv H) (i:=(i:Int)) (by omega);have k1:=λH v=>qc H v 7 (by omega);have hlw:=Bd.kU;have w:=wrap_i64 (a:=c.aY*c.bI) (by omega) (by omega);have k2:=λH v=>qc H v (c.aY*c.bI) (by omega);have k3:=λH v=>qc H v c.aB (by have:=Bd.aB;omega);rw [<-hCa] at a1 a2 a3;rw [<-hCw] at k1 k2 k3;have eb7:∀H,bs 22 7 [(0,I 1),(1,I 2),(2,I 3),(3,I 1),(4,I 2),(5,I 1),(6,I 4)] H=some (.sl H.next 0 0 1 7 7 true,H.new (.blk 0 3 [I 1,I 2,I 3,I 1,I 2,I 1,I 4])):=λH=>
  (QB (by decide)).trans rfl
 let b7:gu:=.blk 0 3 [I 1,I 2,I 3,I 1,I 2,I 1,I 4];let Hc:=(H.new b7).new (.blk 0 53 [zI,zI,zI]);have hK:=nG (v:=atM zk i) (n:=7) (by omega);have s7:aN Hc (.sl H.next 0 0 1 7 7 true) 1 7 [I 1,I 2,I 3,I 1,I 2,I 1,I 4]:=(kN (n:=7) (m:=1) rfl).new _;have i7:=s7.ix (k:=.i64) hK.1 hK.2;have l7:=s7.ld (i:=(dw (atM zk i) 7).toNat) (by omega);have l7':ld (eH (.sl H.next 0 0 1 7 7 true) (dw (atM zk i) 7).toNat) Hc=some (I (qj (atM zk i)),Hc):=by
  rw [l7];unfold qj;generalize hk':(dw (atM zk i) 7).toNat=kk;have:kk<7:=by omega
  match kk,this with
  |0,_|1,_|2,_|3,_|4,_|5,_|6,_=>rfl
 obtain⟨o,ho⟩:∃o:Opn,o=abN c zk za zv i:=⟨_,rfl⟩
 let Hd:=(H.new b7).new (.blk 0 53 o.av);have hcn:=nG (v:=atM zw i) (n:=c.aB) (by have:=Bd.aB;omega);obtain⟨j,hj⟩:∃j:Nat,dw (atM zw i) c.aB=j:=⟨(dw (atM zw i) c.aB).toNat,by omega⟩
 have hjn:j<n:=by omega
 have wi:=λH=>(xY hw H).ix (k:=.i64) (i:=(i:Int)) (by omega) h1;have wl:∀H,ld (eH s.who (i:Int).toNat) H=some (I (atM zw i),H):=λH=>by
  rw [zar,(xY hw H).ld hil,zaH,zab hil];unfold atM;rw [if_pos h1,zar,zas,zab hil];rfl
 have G1:Good b Hd (upd qE r (Ro ps)):=(G.new _).new _;have og:=WR (ps:=ps) (j:=j) (by omega);obtain⟨x,hx,cu⟩:=G1.seq aQ og;have hlen:=(cu.is (by decide) (dM eP _)).lnS;have hg:∃ty xs,Hd.get r=.blk 0 ty xs:=by
  obtain⟨_,τ,hR⟩:=G1;obtain⟨ty,xs,hg,_⟩:=(hR r _ aQ).blk;exact⟨ty,xs,hg⟩
 obtain⟨rty,rxs,hg⟩:=hg;have ix1:=ahS (k:=.i64) hg hjn;have h6:(i:Int)+1=((i+1:Nat):Int):=by omega
 have h7:=wrap_i64 (a:=((i+1:Nat):Int)) (by omega) (by omega);have f0':ld (.ref q 0 0) Hd=some (I c.aB,Hd):=by
  simp only [Hd];rw [Eh (by rw [eX];omega),Eh hq,f0];rfl
 have e8':ld (.ref p 0 8) Hd=some (s.who,Hd):=by
  simp only [Hd];rw [Eh (by rw [eX];omega),Eh hp,e8];rfl
 have hzd:∀j,j<n->ps.getD j []=[]->ld (.ref r 0 j) Hd=some (zN,Hd):=λj' h1 h2=>by
  simp only [Hd];rw [Eh (by rw [eX];have:=G.lt aQ;omega),Eh (G.lt aQ),hz j' h1 h2];rfl
 have sd:Step b H Hd:=(Step.new _ G.1).trans (Step.new _ (G.new _).1);have tail:∃H',QV C (I mo) (.ref p 0 0) (.ref q 0 0) (.sl r 0 0 1 n n true) (I i) (.ref (H.next+1) 0 0) Hd=IL C [I mo,.ref p 0 0,.ref q 0 0,.sl r 0 0 1 n n true,I (i+1:Nat)] H'/\Good b H' (upd qE r (Ro (jH c zw zk za zv ps i)))/\Step b H H'/\(∀j,j<n->(jH c zw zk za zv ps i).getD j []=[]->ld (.ref r 0 j) H'=some (zN,H')):=by
  by_cases hl:(ps.getD j []).length<24
  ·have hl':((ps.getD j []).length:Int)<24:=by omega
   obtain⟨x',Hf,t1,fit,n1,b1,k1'⟩:=(cu.new (.blk 0 53 o.av)).app (e:=53) (by_:=24) (by rw [jB];exact hb) (by decide) (dM eP _) (kN (ex:=true) (n:=1) (m:=3) (l:=o.av) rfl) (oZ o) (by unfold most;omega) (by unfold most;omega);have hrl:r<Hd.next:=G1.lt aQ
   have hxr:iK x≠some r:=by
    rcases cu.own with⟨rfl,_⟩|⟨r',gg,off,n',cap,ex,ty2,all,rfl,kr,_⟩
    ·intro e;cases e
    ·intro e;simp only [iK,zaa] at e;exact kr e
   have hgf:Hf.get r=.blk 0 rty rxs:=by
    rw [k1' r (by rw [eX];omega) hxr,bJ hrl,hg]
   have ix2:=ahS (k:=.i64) hgf hjn;obtain⟨Hg,t2,G2,s2,n2⟩:=(G1.new (.blk 0 53 o.av)).seat aQ og (cu.new _) n1 (by rw [b1,jB];exact hb) k1' fit;have hfs:Step b (Hd.new (.blk 0 53 o.av)) Hf:=⟨b1,n1,λr' hr'=>k1' r' (by have:=G1.1;rw [eX];omega) (cu.low hr')⟩
   refine⟨Hg,?_,?_,((sd.trans (Step.new _ G1.1)).trans hfs).trans s2,?_⟩
   ·have ldo:lda 3 (.ref (H.next+1) 0 0) Hd=some (.agg o.av,Hd):=(iH (off:=0) (n:=3) (xs:=o.av) (aZ (by rw [eX])) (zac 3)).trans rfl;have eb:=kZ (e:=53) (m:=3) (z:=[zI,zI,zI]) (v:=.agg o.av) (H:=Hd) rfl rfl (oZ o);simp only [fA] at eb;simp only [xq_,QV,V3,e8',wi,wl,f0',k3,hj,ix1,hx,hlen,hl',ldo,ak7,zbh,Nat.reduceLeDiff,eb,t1,ix2,t2,cZ,h6,h7]
   ·rw [qw] at G2;have e:jH c zw zk za zv ps i=ps.set j (ps.getD j []++[o]):=by
     simp only [jH,hj,zar];rw [if_pos hl,ho]
    rw [e,<-aeN,zbG,zaC,zdv,zbm];exact G2
   ·have e:jH c zw zk za zv ps i=ps.set j (ps.getD j []++[o]):=by
     simp only [jH,hj,zar];rw [if_pos hl,ho]
    intro j' hj' hem;rw [e] at hem;have hne:j'≠j:=λe'=>by
     subst e';rw [zas,zbd (by omega)] at hem;simp at hem
    have aup:ps.getD j' []=[]:=by
     rw [zas,zbl (by omega)] at hem;rw [zas];exact hem
    have l0:=hzd j' hj' aup;rw [fJ hg] at l0;have hxj:rxs[j']?=some zN:=by
     cases hx':rxs[j']? with
     |none=>rw [hx'] at l0;cases l0
     |some v=>rw [hx'] at l0;simp only [zak,zaa,zad] at l0;rw [l0.1]
    rw [Nv] at t2;simp only [hgf] at t2;split at t2
    ·rename_i hc';simp only [zaa,zad,true_and] at t2;subst t2;obtain⟨_,_,hx1,_,hx5⟩:=hc';rw [fJ (Ij),nZ hx5,if_neg (by omega),hxj];rfl
    ·cases t2
  ·have hl':¬((ps.getD j []).length:Int)<24:=by omega
   refine⟨Hd,?_,?_,sd,?_⟩
   ·simp only [xq_,QV,V3,e8',wi,wl,f0',k3,hj,ix1,hx,hlen,hl',cZ,h6,h7]
   ·have e:jH c zw zk za zv ps i=ps:=by
     simp only [jH,hj,zar];rw [if_neg hl]
    rw [e];exact G1
   ·have e:jH c zw zk za zv ps i=ps:=by
     simp only [jH,hj,zar];rw [if_neg hl]
    rw [e];exact hzd
 obtain⟨H',t1,t2⟩:=tail;refine⟨H',?_,t2⟩;simp only [Hd,Hc,b7] at t1 i7 l7';have hb0:H.base<=H.next:=zaz hb G.1
 have hb1:H.base<=H.next+1:=by omega
 rw [agN,<-t1,ho];by_cases c2:qj (atM zk i)=2
 ·have oe:(abN c zk za zv i).av=[I (qj (atM zk i)),I (dw (atM za i) (c.aY*c.bI)),I (atM zv i)]:=by simp [abN,Opn.av,c2]
  simp only [Nat.reduceAdd,aO,xq_,hq_,hp,hq,e8,e9,e10,e11,f1,f2,w0,h1,him,eb7,a1,a2,a3,k1,k2,i7,l7',je,w,adS,jf,fK,adR,hb1,c2,oe]
 ·by_cases c3:qj (atM zk i)=3
  ·have oe:(abN c zk za zv i).av=[I (qj (atM zk i)),I (dw (atM za i) (c.aY*c.bI)),I (atM zv i)]:=by simp [abN,Opn.av,c3]
   simp only [Int.reduceEq,Nat.reduceAdd,aO,xq_,hq_,hp,hq,e8,e9,e10,e11,f1,f2,w0,h1,him,eb7,a1,a2,a3,k1,k2,i7,l7',je,w,adS,jf,fK,adR,hb1,c3,oe]
  ·have oe:(abN c zk za zv i).av=[I (qj (atM zk i)),I (dw (atM za i) (c.aY*c.bI)),I 0]:=by simp [abN,Opn.av,c2,c3]
   simp only [Nat.reduceAdd,aO,xq_,hq_,hp,hq,e8,e9,e10,e11,f1,f2,w0,h1,him,eb7,a1,a2,a3,k1,k2,i7,l7',je,w,adS,jf,fK,adR,hb1,c2,c3,oe]
end
def abO {α β:Type}{f:α->Option β}:∀(xs:List α) (ys:List β),xs.length=ys.length->(∀(i:Nat) x y,xs[i]?=some x->ys[i]?=some y->f x=some y)->xs.mapM f=some ys
 |[],[],_,_=>rfl
 |x::xs,y::ys,d,h=>by
  have e:=h 0 x y rfl rfl;have:=abO (f:=f) xs ys (by simpa using d) λi a b ha hb=>h (i+1) a b ha hb;rw [zbw,e,this];rfl
 |[],_::_,d,_=>by simp at d
 |_::_,[],d,_=>by simp at d
def Yf {b r n sN:Nat}{H:ah}{ps:List (List Opn)}(G:Good b H (upd qE r (Ro ps)))(hs:sN<=b)(A:ps.length=n)(E:∀j,j<n->ps.getD j []=[]->ld (.ref r 0 j) H=some (zN,H)):
  bV H sN 9 (.sl r 0 0 1 n n true)=some (.vs n 1 (ps.map (vsl 3 Opn.av))):=by
 have d:∃p xs,H.get r=.blk 0 p xs/\xs.length=n:=by
  obtain⟨_,τ,F⟩:=G;obtain⟨p,xs,d,v,_⟩:=(F r _ aQ).blk;exact⟨p,xs,d,by rw [v];simp [Ro,A]⟩
 obtain⟨p,xs,d,v⟩:=d;have K:b<=r:=G.le aQ;refine oh V (cells:=xs) ?_ (abO _ _ (by rw [v,zaE,A]) λi x y C q=>?_)
 ·simp only [dH,d];rw [if_pos ⟨trivial,V⟩,zaS,zaw V]
 ·rw [zaH,zb5] at q;obtain⟨l,h,rfl⟩:=q;have hi:i<n:=by have:=(zae.1 h).1;omega
  have k:ps.getD i []=l:=by rw [zas,h];rfl
  by_cases u:l=[]
  ·have e:=E i hi (by rw [k,u]);rw [fJ d,C] at e;simp only [zak,zaa,zad,and_true] at e;rw [e,u,gI];exact jo
  ·obtain⟨R,g,w⟩:=G.seq aQ (WR (ps:=ps) (j:=i) V);rw [fJ d,C] at g;simp only [zak,zaa,zad,and_true] at g;subst g;rw [k] at w;have m:=w.is Z (dM eP l);obtain⟨T,L⟩:=m.zf;rcases w.own with⟨_,e⟩|⟨r',gg,off,n',M,ex,Q,all,rfl,kr,W,_⟩
   ·have:=congrArg List.length e;rw [dM eP] at this;simp only [zao] at this;exact absurd (zat V) u
   ·have z:n'=l.length:=m.2.2.1;subst z;rw [Fg u];refine oh V L (jh _ λy q=>?_);obtain⟨o,_,D⟩:=za0.1 q;simp only [Opn.av,zaj,zaA,or_false] at D;rcases D with rfl|rfl|rfl <;> exact jo
def ajC(H:ah)(ps:List (List Opn)):WI H (.vs ps.length 1 (ps.map (vsl 3 Opn.av))) ps:=
 ⟨_,aN.vs O,λi v l b d=>by
  rw [zaH,d] at b;cases b;exact⟨Ic eP H l,λh=>by rw [h,gI]⟩⟩
section
variable {H:ah}{s:lg}{zi zw zk za zv:List Int}
def Rq {C:aF}(hCa:C 37=cl 37)(hCw:C 33=cl 33)(hCc:C 7=cl 7)(H:ah)(hbn:H.base<=H.next)(h:s.Ok zi zw zk za zv)(hi:aN ah.empty s.init 1 zi.length (zi.map I))(hw:aN ah.empty s.who 1 zw.length (zw.map I))(hk:aN ah.empty s.kinds 1 zk.length (zk.map I))(ha:aN ah.empty s.kU 1 za.length (za.map I))(hv:aN ah.empty s.bH 1 zv.length (zv.map I))
  (hc:s.init.aP=true/\s.who.aP=true/\s.kinds.aP=true/\s.kU.aP=true/\s.bH.aP=true) {mo:Nat} (hm:mo<=1000):
  ∃Hz r,r=H.next+2/\aqU C (.agg s.cells) (I mo) H=some (.sl r 0 0 1 (s.cfg zi).aB.toNat (s.cfg zi).aB.toNat true,Hz)/\Good (H.next+2) Hz (upd qE r (Ro (qF (s.cfg zi) zw zk za zv mo)))/\Step H.next H Hz/\(∀j,j<(s.cfg zi).aB.toNat->(qF (s.cfg zi) zw zk za zv mo).getD j []=[]->ld (.ref r 0 j) Hz=some (zN,Hz)):=by
 let c:=s.cfg zi;have hck:c.ok=true:=ahR s zi;have Bd:=uK hck;let n:=c.aB.toNat;let H1:=H.new (.blk 0 24 s.cells);let H2:=H1.new (.blk 0 26 c.av);let H3:=H2.new (.blk 0 28 (dN [zN] n));let r:=H.next+2
 have hall:s.cells.all AV.aP=true:=by
  simp only [lg.cells,zcK,zdA,hc,zcL];rfl
 have M0:Made H2 H3 (upd qE r (Ro (nH c zw zk za zv 0))):=by
  refine lH ?_ ?_ λi cc x hcc hx=>?_
  ·rw [lF];simp;right;rfl
  ·rw [lF];simp [Ro,nH,n]
  ·rw [lF,zbB] at hx;simp only [Ro,nH,List.map_replicate,zbB] at hcc;by_cases hin:i<n
   ·rw [if_pos hin] at hx hcc;simp only [zaa] at hx hcc;subst hx;subst hcc;exact .inr ⟨rfl,3,rfl⟩
   ·rw [if_neg hin] at hx;cases hx
 have gp:H2.get H.next=.blk 0 24 s.cells:=by
  simp only [H2];rw [bJ (by simp only [H1,eX];omega)];exact aZ rfl
 have gq:H2.get (H.next+1)=.blk 0 26 c.av:=aZ rfl;have b2:H2.base=H.base:=rfl;have n2:H2.next=H.next+2:=rfl
 have key:∀k i,i+k=min zw.length mo->∀Hi,Good H2.next Hi (upd qE r (Ro (nH c zw zk za zv i)))->Step H2.next H2 Hi->(∀j,j<n->(nH c zw zk za zv i).getD j []=[]->ld (.ref r 0 j) Hi=some (zN,Hi))->
   ∃Hz,Step H2.next H2 Hz/\IL C [I mo,.ref H.next 0 0,.ref (H.next+1) 0 0,.sl r 0 0 1 n n true,I i] Hi=some (.sl r 0 0 1 n n true,Hz)/\Good H2.next Hz (upd qE r (Ro (qF c zw zk za zv mo)))/\(∀j,j<n->(qF c zw zk za zv mo).getD j []=[]->ld (.ref r 0 j) Hz=some (zN,Hz)):=by
  intro k
  induction k with
  |zero=>
   intro i hik Hi G st hz;have e8:ld (.ref H.next 0 8) Hi=some (s.who,Hi):=by rw [fJ (by rw [st.low _ (by omega)];exact gp)];rfl
   have w0:=λH=>(xY hw H).lnS;have hi':min zw.length mo=i:=by omega
   refine⟨Hi,st,?_,by rw [qF,hi'];exact G,by rw [qF,hi'];exact hz⟩;rw [agN];by_cases h1:(i:Int)<zw.length
   ·have h2:¬(i:Int)<mo:=by omega
    simp only [xq_,e8,w0,h1,h2]
   ·simp only [xq_,e8,w0,h1]
  |succ k ih=>
   intro i hik Hi G st hz;obtain⟨H',t1,t2,t3,t4⟩:=UF hCa hCw h hi hw hk ha hv hck (p:=H.next) (q:=H.next+1) (r:=r) (n:=n) (by have:=st.next;omega) (by have:=st.next;omega) (by rw [st.low _ (by omega)];exact gp) (by rw [st.low _ (by omega)];exact gq) G (by rw [st.base,b2,n2];omega) (pG _ _ _ _ _ _) (by have:=Bd.aB;omega) (i:=i) (mo:=mo) (by omega) (by omega) (by omega) hz;rw [t1];exact ih (i+1) (by omega) H' t2 (st.trans t3) t4
 have g3:H3.get r=.blk 0 28 (dN [zN] n):=aZ n2.symm;obtain⟨Hz,r0,r1,r2,r3⟩:=key (min zw.length mo) 0 (by omega) H3 M0.good (Step.new _ (zac _)) (λj hj _=>by
  rw [fJ g3,lF,zbB,if_pos hj];rfl)
 have hs:Step H.next H Hz:=(Step.new _ (zac _)).trans ((Step.new _ (za8 _)).trans ⟨r0.base,r0.next,λr hr=>r0.low r (by omega)⟩)
 refine⟨Hz,r,rfl,?_,r2,hs,r3⟩;have e1:=λH=>Rn H h hi hc;rw [<-hCc] at e1;have hn:=Bd.aB;have e2:=Z7 (e:=28) (m:=1) (by_:=24) (z:=[zN]) (n:=c.aB) (H:=H2) rfl rfl (by omega) (by omega) (by decide);have ls:s.cells.length=12:=rfl;have lt:s.cells.take 12=s.cells:=rfl;have l0:c.av[0]?=some (I c.aB):=rfl;have cc:(AV.agg c.av).cells=c.av:=rfl;have lc:c.av.length=8:=rfl;rw [n2] at e2;simp only [H2,H1] at e2;have hnn:c.aB.toNat=n:=rfl;rw [hnn] at e2;simp only [c] at e2 l0;have hb1:H.base<=H.next+1:=by omega
 simp only [Nat.reduceLT,Nat.reduceAdd,aO,xq_,hq_,aqU,aG hall,ls,lt,e1,l0,e2,hb1];exact r1
def UG(H:ah)(h:s.Ok zi zw zk za zv)(hi:aN ah.empty s.init 1 zi.length (zi.map I))(hw:aN ah.empty s.who 1 zw.length (zw.map I))(hk:aN ah.empty s.kinds 1 zk.length (zk.map I))(ha:aN ah.empty s.kU 1 za.length (za.map I))(hv:aN ah.empty s.bH 1 zv.length (zv.map I))
  (hc:s.init.aP=true/\s.who.aP=true/\s.kinds.aP=true/\s.kU.aP=true/\s.bH.aP=true) {mo:Nat} (hm:mo<=1000):
  ∃ps,ps=qF (s.cfg zi) zw zk za zv mo/\cl 8 [.agg s.cells,I mo] H=some (.vs ps.length 1 (ps.map (vsl 3 Opn.av)),H):=by
 refine⟨_,rfl,?_⟩;obtain⟨Hz,r,hr,e,G,st,hz⟩:=Rq (C:=cl) rfl rfl rfl H.guard (zac _) h hi hw hk ha hv hc hm;have hlen:(qF (s.cfg zi) zw zk za zv mo).length=(s.cfg zi).aB.toNat:=pG _ _ _ _ _ _;have fz:=Yf (sN:=H.next) G (by simp only [Ai];omega) hlen hz;exact jD rfl rfl (atU _ _ _ _ e) (by rw [fz,hlen])
end
def yK(c:Cfg)(zw zk za zv:List Int):∀i,∀l∈nH c zw zk za zv i,l.length<=24
 |0,l,h=>by
  rw [zbY h];decide
 |i+1,l,h=>by
  simp only [nH,jH] at h;split at h
  ·rename_i b;rcases zbV h with h|rfl
   ·exact yK c zw zk za zv i l h
   ·rw [zaq];simp only [zal,zao];omega
  ·exact yK c zw zk za zv i l h
def WS:∀{ps:List (List Opn)} {m:Nat},(∀l∈ps,l.length<=m)->mg ps<=ps.length*m
 |[],_,_=>by simp [mg]
 |l::ps,m,h=>by
  have e:=h l O;have:=WS (ps:=ps) λd b=>h d (by simp [b]);simp only [mg,zax,zbx,zal,zbv,zbh] at*;omega
def Yg(H:ah)(n m:Int):cl 147 [I n,I m] H=some (B (ku n m),H):=by
 refine dD rfl rfl (an5 _ _ _ _) ?_ iD;by_cases h:1<=n
 ·simp only [xq_,aa2,h,ku,zaN]
 ·simp only [xq_,aa2,h,ku,zaP]
def asz {c:Cfg}(b:ku c.aY 8=true)(d:ku c.bI 4=true):IntKind.wrap .i64 (c.aY*c.bI)=c.aY*c.bI:=by
 simp only [ku,zah,decide_eq_true_eq] at b d;have:c.aY*c.bI<=8*4:=zbN b.2 d.2 V V;have:0<=c.aY*c.bI:=zb0 V V;exact wrap_i64 V V
def abP(H:ah)(c:Cfg):cl 99 [.agg c.av] H=some (B c.ok,H):=by
 refine dD rfl rfl (asr _ _ _) ?_ iD;have w:=λH n m=>Yg H n m;have k:=λH=>(kY H c.init).lnS;cases b:ku c.aB 6
 ·simp only [Nat.reduceLT,xq_,hq_,Ou,aG,Cfg.av,Cfg.ok,w,b,zaP]
 cases d:ku c.aY 8
 ·simp only [Nat.reduceLT,xq_,hq_,Ou,aG,Cfg.av,Cfg.ok,w,b,d,zaP,zaN]
 cases e:ku c.bI 4
 ·simp only [Nat.reduceLT,xq_,hq_,Ou,aG,Cfg.av,Cfg.ok,w,b,d,e,zaP,zaN]
 cases g:ku c.sets 4
 ·simp only [Nat.reduceLT,xq_,hq_,Ou,aG,Cfg.av,Cfg.ok,w,b,d,e,g,zaP,zaN]
 cases h:ku c.ways 3
 ·simp only [Nat.reduceLT,xq_,hq_,Ou,aG,Cfg.av,Cfg.ok,w,b,d,e,g,h,zaP,zaN]
 cases i:ku c.out 8
 ·simp only [Nat.reduceLT,xq_,hq_,Ou,aG,Cfg.av,Cfg.ok,w,b,d,e,g,h,i,zaP,zaN]
 cases j:ku c.inn 8
 ·simp only [Nat.reduceLT,xq_,hq_,Ou,aG,Cfg.av,Cfg.ok,w,b,d,e,g,h,i,j,zaP,zaN]
 have hm:=asz d e;simp only [Nat.reduceLT,xq_,hq_,Ou,aG,Cfg.av,Cfg.ok,w,b,d,e,g,h,i,j,k,je,hm,zaN]
def abQ {c:Cfg}(h:c.ok=true)(a:Int):decide (c.bU a≠-1)=(decide (0<=a) && decide (a<c.aY*c.bI)):=by
 have e:=uK h;have hw:=e.bI;by_cases b:0<=a
 ·by_cases d:a<c.aY*c.bI
  ·have:0<=a / c.bI:=zdB b V;have:¬(a<0∨c.aY*c.bI<=a):=V
   simp only [Cfg.bU,Cfg.kU,this,if_false,b,d,decide_true,zcj,decide_eq_true_eq];omega
  ·have:a<0∨c.aY*c.bI<=a:=V
   simp [Cfg.bU,Cfg.kU,this,d]
 ·have:a<0∨c.aY*c.bI<=a:=V
  simp [Cfg.bU,Cfg.kU,this,b]
def UH(H:ah)(c:Cfg)(h:c.ok=true)(o:Opn):cl 148 [.agg c.av,.agg o.av] H=some (B (c.right o),H):=by
 refine dD rfl rfl (an6 _ _ _ _) ?_ iD;have p:=abQ h o.addr;have m:=uK h;have hm:=wrap_i64 (a:=c.aY*c.bI) (by have:=m.kU;omega) (by have:=m.kU;omega);rw [Cfg.right,p];have j:c.av[1]?=some (I c.aY):=rfl;have k:c.av[2]?=some (I c.bI):=rfl;by_cases a:1<=o.aS;rotate_left
 ·simp only [Nat.reduceLT,xq_,hq_,BF,aG,Opn.av,a,zaP]
 by_cases b:o.aS<=4;rotate_left
 ·simp only [Nat.reduceLT,xq_,hq_,BF,aG,Opn.av,a,b,zaP,zaN]
 by_cases d:0<=o.addr;rotate_left
 ·simp only [Nat.reduceLT,xq_,hq_,BF,aG,Opn.av,a,b,d,zaP,zaN]
 by_cases e:o.addr<c.aY*c.bI;rotate_left
 ·simp only [Nat.reduceLT,xq_,hq_,BF,aG,Opn.av,j,k,a,b,d,e,je,hm,zaP,zaN]
 by_cases f:o.value=0
 ·simp only [Nat.reduceLT,xq_,hq_,BF,aG,Opn.av,j,k,a,b,d,e,f,je,hm,zc1]
 by_cases g:o.aS=2
 ·simp only [Nat.reduceLT,Int.reduceLE,Int.reduceEq,xq_,hq_,BF,aG,Opn.av,j,k,d,e,f,g,je,hm,zc1,zbI]
 by_cases i:o.aS=3
 ·simp only [Nat.reduceLT,Int.reduceLE,Int.reduceEq,xq_,hq_,BF,aG,Opn.av,j,k,d,e,f,i,je,hm,zbI]
 ·simp only [Nat.reduceLT,xq_,hq_,BF,aG,Opn.av,j,k,a,b,d,e,f,g,i,je,hm,zaN,zbI]
def ahT(c:Cfg)(l:List Opn):Bool:=decide (l.length<=24) && l.all c.right
def ajD(H:ah)(c:Cfg)(h:c.ok=true){x:AV}{ps:List (List Opn)}(hx:WI H x ps)(hn:ps.length<1000000000)(hl:∀l∈ps,l.length<1000000000):cl 100 [.agg c.av,x] H=some (B (c.vT ps),H):=by
 refine dD rfl rfl (ana _ _ _ _) ?_ iD;let H0:=H.guard.new (.blk 0 26 c.av);have n0:H0.next=H.next+1:=rfl
 have hx1:=hx.iZ (H':=H0) (by rw [n0];omega) λr hr=>by simp only [H0];rw [bJ (by rw [Ai];exact hr),ap4]
 -- what a memory is that has gone on from there
 have keep:∀{H1:ah},H0.next<=H1.next->(∀r,r<H0.next->H1.get r=H0.get r)->WI H1 x ps/\lda 8 (.ref H.next 0 0) H1=some (.agg c.av,H1)/\ld (.ref H.next 0 0) H1=some (I c.aB,H1):=by
  intro H1 a b;have g:H1.get H.next=.blk 0 26 c.av:=by rw [b _ (by omega)];exact aZ rfl
  exact⟨hx1.iZ a b,jJ g,by rw [fJ g];rfl⟩
 have l0:c.av[0]?=some (I c.aB):=rfl;obtain⟨atw,x0,_⟩:=hx1;have e1:=x0.lnS;by_cases hc:(ps.length:Int)=c.aB;rotate_left
 ·simp only [H0] at e1;simp only [Nat.reduceLT,xq_,hq_,aaQ,aG (fD c),e1,l0,hc,Cfg.vT,zb8,zam]
 -- the operations of one program
 have inner:∀(i:Nat) (l:List Opn),ps[i]?=some l->l.length<1000000000->∀k j,j+k=l.length->(l.take j).all c.right=true->∀H1:ah,H.next<=H1.base->H0.next<=H1.next->(∀r,r<H0.next->H1.get r=H0.get r)->H1.base<=H1.next->∀(u v:AV),aN H0 v 3 l.length (l.flatMap Opn.av)->
   (l.all c.right=false->(sU cl [.ref H.next 0 0,x,I ps.length,I i,v,I l.length,I j] H1).map Prod.fst=some (B false))/\
   (l.all c.right=true->∃H2,H.next<=H2.base/\H0.next<=H2.next/\(∀r,r<H0.next->H2.get r=H0.get r)/\H2.base<=H2.next/\sU cl [.ref H.next 0 0,x,I ps.length,I i,v,I l.length,I j] H1=yE cl [.ref H.next 0 0,x,I ps.length,I (i+1:Nat)] H2):=by
  intro i l hi hll k;have hip:i<ps.length:=(zae.1 hi).1
  induction k with
  |zero=>
   intro j hj hall H1 b0 b1 b2 b3 u v hv;have h1:¬(j:Int)<l.length:=by omega
   have hal:l.all c.right=true:=by rw [zaw (by omega)] at hall;exact hall
   have h6:(i:Int)+1=((i+1:Nat):Int):=by omega
   have h7:=wrap_i64 (a:=((i+1:Nat):Int)) (by omega) (by omega);refine⟨λh=>(by rw [hal] at h;cases h),λ_=>⟨H1,b0,b1,b2,b3,?_⟩⟩;rw [Ov];simp only [Nat.reduceAdd,aO,xq_,hq_,h1,cZ,h6,h7]
  |succ k ih=>
   intro j hj hall H1 b0 b1 b2 b3 u v hv;have h1:(j:Int)<l.length:=by omega
   have hv1:=hv.iZ (H':=H1) b1 λr _ hr=>b2 r hr;have h3:=hv1.ix (k:=.i64) (i:=(j:Int)) (by omega) h1;rw [zar] at h3;obtain⟨o,ho⟩:∃o,l[j]?=some o:=⟨_,zab (by omega)⟩
   have h4:=mW eP hv1 ho;obtain⟨_,k2,_⟩:=keep b1 b2;have h5:=λH=>UH H c h o;have lt0:H.next<H1.next:=by omega
   have h6:(j:Int)+1=((j+1:Nat):Int):=by omega
   have h7:=wrap_i64 (a:=((j+1:Nat):Int)) (by omega) (by omega);have hz:H1.base<=H1.next:=b3
   cases hr:c.right o with
   |false=>
    have hal:l.all c.right=false:=by
     rw [zdl];exact⟨o,zan ho,by simp [hr]⟩
    refine⟨λ_=>?_,λh=>(by rw [hal] at h;cases h)⟩;rw [Ov];simp only [Nat.reduceAdd,aO,xq_,hq_,h1,h3,h4,k2,h5,lt0,hr,hz,zam]
   |true=>
    have asA:(l.take (j+1)).all c.right=true:=by
     rw [zcz,ho,zbj,hall];simp [hr]
    have key:=ih (j+1) (by omega) asA (H1.new (.blk 0 53 o.av)) b0 (zbH b1) (λr hr=>by rw [bJ (by omega)];exact b2 r hr) (zbH b3) u v hv;have step:sU cl [.ref H.next 0 0,x,I ps.length,I i,v,I l.length,I j] H1=sU cl [.ref H.next 0 0,x,I ps.length,I i,v,I l.length,I (j+1:Nat)] (H1.new (.blk 0 53 o.av)):=by
     rw [Ov];simp only [Nat.reduceAdd,aO,xq_,hq_,h1,h3,h4,k2,h5,lt0,hr,hz,zaf,cZ,h6,h7]
    rw [step];exact key
 have outer:∀k i,i+k=ps.length->(ps.take i).all (ahT c)=true->∀H1:ah,H.next<=H1.base->H0.next<=H1.next->(∀r,r<H0.next->H1.get r=H0.get r)->H1.base<=H1.next->(yE cl [.ref H.next 0 0,x,I ps.length,I i] H1).map Prod.fst=some (B (ps.all (ahT c))):=by
  intro k
  induction k with
  |zero=>
   intro i hi hall H1 b0 b1 b2 b3;have h1:¬(i:Int)<ps.length:=by omega
   rw [zaw (by omega)] at hall;rw [hall,Fp];simp only [xq_,h1]
  |succ k ih=>
   intro i hi hall H1 b0 b1 b2 b3;have h1:(i:Int)<ps.length:=by omega
   obtain⟨⟨cells,x1,x2⟩,_,_⟩:=keep b1 b2;have hcl:cells.length=ps.length:=by have:=x1.1;omega
   have h3:=x1.ix (k:=.i64) (i:=(i:Int)) (by omega) h1;rw [zar] at h3;obtain⟨v,hv⟩:∃v,cells[i]?=some v:=⟨_,zab (by omega)⟩
   obtain⟨l,hpl⟩:∃l,ps[i]?=some l:=⟨_,zab (by omega)⟩
   have h4:=x1.ld (i:=i) (by omega);rw [hv] at h4;obtain⟨y1,_⟩:=x2 i v l hv hpl;have h5:=y1.lnS;have hll:=hl l (zan hpl)
   -- the same slice,at first
   have y0:aN H0 v 3 l.length (l.flatMap Opn.av):=by
    obtain⟨⟨cells',z1,z2⟩,_,_⟩:=keep (H1:=H0) (zac _) λ_ _=>rfl;have hv':cells'[i]?=some v:=by
     have:=(z1.iZ (H':=H1) b1 λr _ hr=>b2 r hr).ld (i:=i) (by omega);rw [h4] at this;cases hc':cells'[i]? with
     |none=>rw [hc'] at this;cases this
     |some w=>rw [hc'] at this;simp only [zak,zaa,zad,and_true] at this;rw [this]
    exact(z2 i v l hv' hpl).1
   by_cases hlen:l.length<=24
   ·have h24:¬(24:Int)<l.length:=by omega
    have:=inner i l hpl hll l.length 0 (by omega) (by simp) H1 b0 b1 b2 b3 v v y0;cases hr:l.all c.right with
    |false=>
     have hal:ps.all (ahT c)=false:=by
      rw [zdl];exact⟨l,zan hpl,by simp [ahT,hr]⟩
     have t:=this.1 hr;rw [hal,Fp];simp only [xq_,h1,h3,h4,h5,h24];exact t
    |true=>
     obtain⟨H2,c0,c1,c2,c3,t⟩:=this.2 hr;have:=ih (i+1) (by omega) (by rw [zcz,hpl,zbj,hall];simp [ahT,hlen,hr]) H2 c0 c1 c2 c3;rw [Fp];simp only [xq_,h1,h3,h4,h5,h24];have t':sU cl [.ref H.next 0 0,x,I ps.length,I i,v,I l.length,I 0] H1=yE cl [.ref H.next 0 0,x,I ps.length,I (i+1:Nat)] H2:=t;rw [t'];exact this
   ·have h24:(24:Int)<l.length:=by omega
    have hal:ps.all (ahT c)=false:=by
     rw [zdl];exact⟨l,zan hpl,by simp [ahT,hlen]⟩
    rw [hal,Fp];simp only [xq_,h1,h3,h4,h5,h24]
 have fin:=outer ps.length 0 (by omega) (by simp) H0 (zac _) (zac _) (λ_ _=>rfl) (by rw [n0];show H.next<=_;omega);have eo:c.vT ps=ps.all (ahT c):=by simp only [Cfg.vT,hc,decide_true,zcL];rfl
 rw [eo];simp only [H0] at e1 fin;simp only [Nat.reduceLT,xq_,hq_,aaQ,aG (fD c),e1,l0,hc];rw [<-hc];exact fin
def Yh {β:Type}{w:Option Nat}{H H':ah}{k:Option β}(h:∀r,w=some r->H'.get r=H.get r):ck w H H' k=k:=if_pos h
def DC {H1:ah}{n d m k:Nat}{x:AV}{cells:List AV}(c:Own n H1 x m cells)(hm:0<m)(b:cells.length=k*m)(i:∀y∈cells,bV H1 n d y=some y)(hk:k≠0):bV H1 n (d+1) x=some (.vs k m cells):=by
 rcases c with⟨rfl,rfl⟩|⟨r,g,off,n',e,ex,q,all,rfl,j,u,k4,o,v,w,rfl⟩
 ·simp only [zao] at b;rcases zdb.1 b.symm with h|h <;> omega
 ·have p:n'*m<=e*m:=zaD _ k4;rw [zau,zaR,zbo V] at b;have:n'=k:=zbR hm b;subst this;exact oh j (cells:=(all.drop off).take (n'*m)) (by simp only [dH,o];rw [if_pos ⟨trivial,V⟩]) (jh _ i)
def abR {c:Cfg}{aj:Int}(h0:0<=aj)(b:aj<c.aY){i:Nat}(hi:i<c.bI.toNat):(c.first aj)[i]?=some (c.init.getD ((aj*c.bI).toNat+i) 0):=by
 unfold Cfg.first
 rw [if_neg V,zaH,zbz hi];rfl
def Rt {c:Cfg}{aj:Int}(h0:0<=aj)(b:aj<c.aY):(c.first aj).length=c.bI.toNat:=by
 unfold Cfg.first
 rw [if_neg V];simp
def Yi(H:ah)(c:Cfg)(h:c.ok=true)(aj:Int)(h0:0<=aj)(h1:aj<c.aY):cl 54 [.agg c.av,I aj] H=some (dat (c.first aj),H):=by
 have Bd:=uK h;have hw:=Bd.bI;have hlw:0<=aj*c.bI:=zb0 h0 (by omega);have aun:aj*c.bI<=8*4:=zbN (by have:=Bd.aY;omega) hw.2 (by omega) (by omega);have w:=wrap_i64 (a:=aj*c.bI) (by omega) (by omega);let H0:=H.guard.new (.blk 0 26 c.av);have g0:H0.get H.next=.blk 0 26 c.av:=aZ rfl
 have key:∀k i,i+k=c.bI.toNat->∀(H1:ah) (x:AV),H.next<=H1.next->H1.base=H.next->H1.get H.next=.blk 0 26 c.av->Own (H.next+1) H1 x 1 (((c.first aj).take i).map I)->H.next+1<=H1.next->
   ∃H2 y,Og cl [I aj,.ref H.next 0 0,x,I i] H1=some (y,H2)/\Own (H.next+1) H2 y 1 ((c.first aj).map I):=by
  intro k
  induction k with
  |zero=>
   intro i hi H1 x n1 b1 g1 O n2;have l2:ld (.ref H.next 0 2) H1=some (I c.bI,H1):=by rw [fJ g1];rfl
   have hn:¬(i:Int)<c.bI:=by omega
   rw [zaw (by rw [Rt h0 h1];omega)] at O;refine⟨H1,x,?_,O⟩;rw [aaF];simp only [xq_,l2,hn]
  |succ k ih=>
   intro i hi H1 x n1 b1 g1 O n2;have l2:ld (.ref H.next 0 2) H1=some (I c.bI,H1):=by rw [fJ g1];rfl
   have l7:ld (.ref H.next 0 7) H1=some (dat c.init,H1):=by rw [fJ g1];rfl
   have hn:(i:Int)<c.bI:=by omega
   have e1:=(kY H1 c.init).lnS;have w2:=wrap_i64 (a:=aj*c.bI+i) (by omega) (by omega);have h6:(i:Int)+1=((i+1:Nat):Int):=by omega
   have h7:=wrap_i64 (a:=((i+1:Nat):Int)) (by omega) (by omega);have hg:=abR (c:=c) (aj:=aj) h0 h1 (i:=i) (by omega);have tail:∀v:Int,v=c.init.getD ((aj*c.bI).toNat+i) 0->∃H2 y,Oh cl (I aj) (.ref H.next 0 0) x (I i) (I v) H1=some (y,H2)/\Own (H.next+1) H2 y 1 ((c.first aj).map I):=by
    intro v hv;have eb:bs 22 1 [(0,I v)] H1=some (.sl H1.next 0 0 1 1 1 true,H1.new (.blk 0 3 [I v])):=(QB (by decide)).trans (kZ rfl rfl rfl);obtain⟨x',H2,a1,a2,a3⟩:=(O.new (.blk 0 3 [I v])).step (n:=i) (k:=1) (e:=3) (by_:=8) (y:=.sl H1.next 0 0 1 1 1 true) (new:=[I v]) (by rw [eX];omega) (by rw [jB,b1];omega) (by decide) (by rw [zaE,zau,Rt h0 h1];omega) (kN rfl) rfl (by unfold most;omega) (by unfold most;omega);have O2:Own (H.next+1) H2 x' 1 (((c.first aj).take (i+1)).map I):=by
     rw [zcz,hg,zbi];rw [hv] at a2;exact a2
    obtain⟨H3,y,r1,r2⟩:=ih (i+1) (by omega) H2 x' (by have:=a3.next;rw [eX] at this;omega) (by rw [a3.base,jB,b1]) (by rw [a3.low _ (by omega),bJ (by omega),g1]) O2 (by have:=a3.next;rw [eX] at this;omega);refine⟨H3,y,?_,r2⟩;simp only [xq_,Oh,eb,a1,cZ,h6,h7,r1]
   rw [aaF];by_cases hc:aj*c.bI+i<c.init.length
   ·have e2:=(kY H1 c.init).ix (k:=.i64) (i:=aj*c.bI+i) (by omega) hc;have e3:=(kY H1 c.init).ld (i:=(aj*c.bI+i).toNat) (by omega);have e4:(c.init.map I)[(aj*c.bI+i).toNat]?=some (I (c.init.getD ((aj*c.bI).toNat+i) 0)):=by
     have:(aj*c.bI+i).toNat=(aj*c.bI).toNat+i:=by omega
     rw [this,zaH,zab (by omega)];simp [List.getD,zab (show(aj*c.bI).toNat+i<c.init.length by omega)]
    rw [e4] at e3;obtain⟨H2,y,r1,r2⟩:=tail _ rfl;refine⟨H2,y,?_,r2⟩;simp only [xq_,l2,hn,je,w,cZ,w2,l7,e1,hc,e2,e3,r1]
   ·obtain⟨H2,y,r1,r2⟩:=tail 0 (by
     have:c.init.length<=(aj*c.bI).toNat+i:=by omega
     simp [List.getD,zaG this])
    refine⟨H2,y,?_,r2⟩;simp only [xq_,l2,hn,je,w,cZ,w2,l7,e1,hc,r1]
 obtain⟨H2,y,r1,r2⟩:=key c.bI.toNat 0 (by omega) H0 zN (by show H.next<=H.next+1;omega) rfl g0 (.inl ⟨rfl,by simp⟩) (zac _);refine jD rfl rfl (arB _ _ _ _ (r:=(y,H2)) ?_) ?_
 ·have n0:¬aj<0:=by omega
  have n1:¬c.aY<=aj:=by omega
  have l1:c.av[1]?=some (I c.aY):=rfl;simp only [Nat.reduceLT,xq_,hq_,amD,aG (fD c),n0,n1,l1];exact r1
 ·rw [xQ (OH h h0 h1)];have r3:Own H.next H2 y 1 ((c.first aj).map I):=by
   rcases r2 with r2|⟨r,g,off,n,cap,ex,ty,all,a0,a1,a2⟩
   ·exact .inl r2
   ·exact .inr ⟨r,g,off,n,cap,ex,ty,all,a0,by omega,a2⟩
  exact DC r3 (by decide) (by simp) (λy hy=>yI _ y hy _ _) (λe=>OH h h0 h1 (zat e))
def abS(H:ah)(sets ways:Int)(h:1<=sets)(g:1<=ways):∃H' q,cl 149 [I sets,I ways] H=some (.ref q 0 0,H')/\Made H H' (upd qE q (Dc ⟨[],sets,ways,0⟩ [])):=by
 refine⟨_,H.next,bC rfl rfl (an7 _ _ _ _ (r:=(_,H.new (.blk 0 271 [I sets,I ways,zI,zN]))) ?_),lH rfl rfl λi c x hc b=>?_⟩
 ·have e:max sets (1:Int)=sets:=V
  have d:max ways (1:Int)=ways:=V
  simp only [Nat.reduceLT,Nat.reduceAdd,Nat.reduceLeDiff,aO,xq_,hq_,ahp,Nk,e,d,alE,jf,fK,agj,aG]
 ·match i with
  |0=>left;cases hc;cases b;rfl
  |1=>left;cases hc;cases b;rfl
  |2=>left;cases hc;cases b;rfl
  |3=>right;cases hc;cases b;exact⟨rfl,6,rfl⟩
  |i+4=>cases hc
def ajE(H:ah)(c:Cfg)(h:c.ok=true):∃H' f,cl 101 [.agg c.av] H=some (.ref f 0 0,H')/\Made H H' (upd qE f (XW c (List.replicate (4*c.aB.toNat) []))):=by
 have D:=uK h;have Q:=D.aB;let H1:=H.new (.blk 0 26 c.av);let A:=H1.new (.blk 0 325 (dN [zN,zN,zN,zN] c.aB.toNat));let S:AV:=.sl (H.next+1) 0 0 4 c.aB.toNat c.aB.toNat true;let d:=A.new (.blk 0 237 (c.av++[S]));have u:=Z7 (e:=325) (m:=4) (by_:=96) (z:=[zN,zN,zN,zN]) (n:=c.aB) (H:=H1) rfl rfl V V Z;have E:c.av[0]?=some (I c.aB):=rfl;have g:∀n,(dN [zN,zN,zN,zN] n).length=n*4/\∀(j:Nat) x,(dN [zN,zN,zN,zN] n)[j]?=some x->x=zN:=by
  intro n
  induction n with
  |zero=>exact⟨rfl,λj x b=>by simp [dN] at b⟩
  |succ n C=>
   refine⟨by rw [dN,zaq,C.1];simp;omega,λj x b=>?_⟩;rw [dN] at b;have:=zan b;rcases zaO.1 this with hm|hm
   ·simpa using hm
   ·obtain⟨k,hk,v⟩:=zdC hm;exact C.2 k x (by rw [zab hk,v])
 refine⟨d,H.next+2,bC rfl rfl (anc _ _ _ (r:=(_,d)) ?_),⟨by show H.next<=H.next+3;omega,rfl,λr F=>?_,by show H.next<=H.next+3;omega,λr=>if r=H.next+2 then some (r,0,0,0) else if r=H.next+1 then some (H.next+2,9,0,0) else none,λq cs o=>?_⟩⟩
 ·have e:bd 237 [(0,.agg c.av),(1,S)]=some (.agg (c.av++[S])):=by
   simp only [xq_,alB,jf,fK,agf,Cfg.av,fA];rfl
  have G:(c.av++[S]).all AV.aP=true:=by rw [zbj,fD];rfl
  have K:=jJ (H:=H1) (r:=H.next) (c:=c) (aZ rfl);have L:H1.next=H.next+1:=rfl
  simp only [L] at u;simp only [H1] at u K;simp only [Nat.reduceLT,xq_,hq_,agP,aG (fD c),E,u,e,aG G,S];rfl
 ·simp only [d,A,H1];rw [bJ (by simp only [eX];omega),bJ (by simp only [eX];omega),bJ F]
 ·unfold upd at o;split at o
  ·rename_i e;subst e;cases o;refine⟨O,V,by show _<H.next+3;omega,wM (ty:=237) (xs:=c.av++[S]) (aZ rfl) Z,237,c.av++[S],aZ rfl,by simp [XW,Cfg.av],by rw [zbj,fD];rfl,λi R x hc b=>?_⟩;rcases zaQ i 8 with hi|hi
   ·rw [XW,zaJ (by simp [Cfg.av];omega),zaH] at hc;rw [zaJ (by simp [Cfg.av];omega)] at b;rw [b] at hc;cases hc;exact rfl
   ·have w:i=8:=by
     have:=(zae.1 b).1;simp [Cfg.av] at this;omega
    subst w;cases hc;cases b;refine⟨dN [zN,zN,zN,zN] c.aB.toNat,.inr ⟨H.next+1,0,0,c.aB.toNat,c.aB.toNat,true,325,_,rfl,O,V,by show _<H.next+3;omega,zac _,by simp only [d];rw [bJ (by show _<H.next+2;omega)];exact aZ rfl,by rw [(g _).1];omega,yx rfl _,?_⟩,by rw [(g _).1,zcb];omega,λj cells y p M=>?_⟩
    ·rw [zaS,zaw (by rw [(g _).1];omega)]
    ·rw [zbB] at p;split at p
     ·cases p;exact .inl ⟨(g _).2 _ _ M,rfl⟩
     ·cases p
  ·cases o
def jP(c:Cfg)(n:Nat):List Row:=(List.range n).map λ(i:Nat)=>(⟨0,-1,c.first (i:Int)⟩:Row)
def UJ(c:Cfg)(n:Nat):jP c (n+1)=jP c n++[⟨0,-1,c.first n⟩]:=by
 simp [jP,zcd]
def abT(H:ah)(hb:H.base<=H.next)(c:Cfg)(h:c.ok=true)(me:Int):∃H' q,cl 150 [.agg c.av,I me] H=some (.ref q 0 0,H')/\Made H H' (upd qE q (qA c me ((gZ.new c).dJ.flatMap Row.av) ⟨[],[]⟩)):=by
 have Bd:=uK h;have hl:=Bd.aY;let H1:=H.new (.blk 0 26 c.av);let xs:List AV:=c.av++[I me,zN,zN,zN]
 let H2:=H1.new (.blk 0 278 xs);let f:=H.next+1
 have ax:xs.all AV.aP=true:=by simp only [xs,zbj,fD];rfl
 have M0:Made H1 H2 (upd qE f (qA c me [] ⟨[],[]⟩)):=lH ax (by simp [xs,qA]) λi cc x hc hx=>by
  rcases zaQ i 8 with hi|hi
  ·left;rw [qA,zaJ (by simp [Cfg.av];omega),zaH] at hc;rw [zaJ (by simp [Cfg.av];omega)] at hx;rw [hx] at hc;exact(zaX hc).symm
  ·obtain⟨j,rfl⟩:∃j,i=8+j:=⟨i-8,by omega⟩
   match j with
   |0=>left;cases hc;cases hx;rfl
   |1=>right;cases hc;cases hx;exact⟨rfl,3,rfl⟩
   |2=>right;cases hc;cases hx;exact⟨rfl,2,rfl⟩
   |3=>right;cases hc;cases hx;exact⟨rfl,3,rfl⟩
   |j+4=>exfalso;have:=(zae.1 hx).1;simp [xs,Cfg.av] at this;omega
 have key:∀k i,i+k=c.aY.toNat->∀Hi,Made H1 Hi (upd qE f (qA c me ((jP c i).flatMap Row.av) ⟨[],[]⟩))->
   ∃H',FK cl [.ref H.next 0 0,.ref f 0 0,I i] Hi=some (.ref f 0 0,H')/\Made H1 H' (upd qE f (qA c me ((jP c c.aY.toNat).flatMap Row.av) ⟨[],[]⟩)):=by
  intro k
  induction k with
  |zero=>
   intro i hi Hi M;have h1:¬(i:Int)<c.aY:=by omega
   have g:Hi.get H.next=.blk 0 26 c.av:=by rw [M.same _ (by show H.next<H.next+1;omega)];exact aZ rfl
   have l1:ld (.ref H.next 0 1) Hi=some (I c.aY,Hi):=by rw [fJ g];rfl
   rw [Wn];refine⟨Hi,?_,by rw [show c.aY.toNat=i by omega];exact M⟩;simp only [Int.reduceNeg,xq_,l1,h1]
  |succ k ih=>
   intro i hi Hi M;have h1:(i:Int)<c.aY:=by omega
   have h6:(i:Int)+1=((i+1:Nat):Int):=by omega
   have h7:=wrap_i64 (a:=((i+1:Nat):Int)) (by omega) (by omega);have n1:H1.next=H.next+1:=rfl
   have g:Hi.get H.next=.blk 0 26 c.av:=by rw [M.same _ (by omega)];exact aZ rfl
   have l1:ld (.ref H.next 0 1) Hi=some (I c.aY,Hi):=by rw [fJ g];rfl
   have l8:=jJ g;obtain⟨x,hx,cx⟩:=M.good.seq aQ (i:=9) rfl;have e1:=Yi Hi.guard c h i (by omega) h1;let r:Row:=⟨0,-1,c.first i⟩
   have hlen:((jP c i).flatMap Row.av).length=i*3:=by rw [dM CY];simp [jP]
   have eb:=kZ (e:=279) (m:=3) (z:=[zI,zI,zN]) (v:=.agg r.av) (H:=Hi) rfl rfl (Ns r);simp only [fA] at eb;obtain⟨x',He,Hf,t1,t2,t3,t4⟩:=(M.good.new (.blk 0 279 r.av)).append (e:=279) (by_:=40) (by rw [jB,M.base,n1];simp only [H1,jB];omega) aQ (i:=9) rfl (by decide) hlen (cx.new _) (kN (ex:=true) (n:=1) (m:=3) (l:=r.av) rfl) (Ns r) (by unfold most;omega) (by unfold most;omega);have Mf:Made H1 Hf (upd qE f (qA c me ((jP c (i+1)).flatMap Row.av) ⟨[],[]⟩)):=by
    refine((M.new _).step t3 t4).as ?_;rw [qw,UJ,zbG]
    congr 1
   obtain⟨H',r1,r2⟩:=ih (i+1) (by omega) Hf Mf;refine⟨H',?_,r2⟩;rw [Wn];have er:bd 279 [(0,I 0),(1,I (-1)),(2,dat (c.first i))]=some (.agg r.av):=by
    simp only [Int.reduceNeg,xq_,alG,jf,fK,agl,Ig];rfl
   simp only [Int.reduceNeg,Nat.reduceLeDiff,xq_,hq_,l1,h1,hx,l8,e1,er,alb,zbh,eb,t1,t2,cZ,h6,h7,r1]
 obtain⟨H',r1,r2⟩:=key c.aY.toNat 0 (by omega) H2 M0;refine⟨H',f,bC rfl rfl (an8 _ _ _ _ (r:=(_,H')) ?_),r2.zy⟩;have e:bd 278 [(0,.agg c.av),(1,I me)]=some (.agg xs):=by
  simp only [xq_,alF,jf,fK,agk,Cfg.av,fA];rfl
 have e0:=jJ (H:=H1) (r:=H.next) (c:=c) (aZ rfl);simp only [H1] at e0;simp only [Nat.reduceLT,xq_,hq_,ahr,aG (fD c),e0,e,aG ax];exact r1
def ajF {H:ah}{v:AV}{l:List Opn}(hv:aN H v 3 l.length (l.flatMap Opn.av))(hl:l.length<1000000):
  ∃y H',app 53 3 24 zN v H=some (y,H')/\Own H.next H' y 3 (l.flatMap Opn.av)/\Step H.next H H':=by
 have O:Own H.next H zN 3 []:=.inl ⟨rfl,rfl⟩
 have hz:most=most:=rfl;obtain⟨c1,c2⟩:=hv.zf;by_cases h0:l=[]
 ·subst h0;refine⟨zN,H,?_,.inl ⟨rfl,rfl⟩,Step.refl _ _⟩;simp only [app,c1,c2,dZ];rfl
 ·have hn:l.length≠0:=λe=>h0 (zat e);refine⟨_,_,Nw hv (Nu oZ l) hn (by unfold most;omega) (by unfold most;omega),.inr ⟨H.next,0,0,l.length,l.length,false,53+iC,l.flatMap Opn.av,rfl,zac _,by rw [eX];omega,zac _,aZ rfl,by rw [dM eP];omega,Nu oZ l,?_⟩,Step.new _ (zac _)⟩;rw [zaS,zaw (by rw [dM eP];exact zac _)]
def aeO {H H1:ah}{ty:TypeId}{xs:List AV}{cs:List Cell}{i0 m0:Nat}{l0:List AV}{y:AV}(s:Step H.next H H1)(hc:xs.all AV.aP=true)(o:xs.length=cs.length)(O:Own H.next H1 y m0 l0)
  (h:∀(i:Nat) (c:Cell) (x:AV),cs[i]?=some c->xs[i]?=some x->c=.av x∨(x=zN/\∃m,c=.seq m [])∨(i=i0/\x=y/\c=.seq m0 l0)) (p:ty<iC:=by decide):
  Made H (H1.new (.blk 0 ty xs)) (upd qE H1.next cs):=by
 have n1:=s.next
 refine⟨by rw [eX];omega,s.base,λr u=>by rw [bJ V,s.low r u],by rw [eX];omega,λr=>if r=H1.next then some (r,0,0,0) else if iK y=some r then some (H1.next,i0+1,0,0) else none,λq v b=>?_⟩;unfold upd at b;split at b
 ·rename_i e;subst e;cases b;refine⟨ZZ,n1,by rw [eX];omega,wM (xs:=xs) (aZ rfl) p,ty,xs,aZ rfl,o,hc,λi c x d w=>?_⟩;rcases h i c x d w with rfl|⟨rfl,m,rfl⟩|⟨rfl,rfl,rfl⟩
  ·exact rfl
  ·exact .inl ⟨rfl,rfl⟩
  ·rcases O with O|⟨r,g,off,n,j,ex,k,all,rfl,z,A,k4,C,D⟩
   ·exact .inl O
   ·exact .inr ⟨r,g,off,n,j,ex,k,all,rfl,by simp only [iK];rw [if_neg V,if_pos trivial],z,by rw [eX];omega,k4,by rw [bJ A];exact C,D⟩
 ·cases b
def aeP(H:ah)(c:Cfg)(h:c.ok=true)(me:Int)(l:List Opn)(hl:l.length<1000000){x:AV}(hx:aN H x 3 l.length (l.flatMap Opn.av)):
  ∃H' a g',cl 102 [.agg c.av,I me,x] H=some (.ref (a 0) 0 0,H')/\Made H H' g'/\pz g' a c me (.new c l):=by
 have Bd:=uK h;let H1:=H.new (.blk 0 26 c.av);obtain⟨H2',q1,e1,M1⟩:=abS H1.guard c.sets c.ways Bd.sets.1 Bd.ways.1;obtain⟨H2,e1,M1⟩:=drawn e1 M1;obtain⟨H3',q2,e2,M2⟩:=abT H2.guard (zac _) c h me;obtain⟨H3,e2,M2⟩:=drawn e2 M2;have hx3:aN H3 x 3 l.length (l.flatMap Opn.av):=((hx.new (.blk 0 26 c.av)).iZ M1.next λr _ hr=>M1.same r hr).iZ M2.next λr _ hr=>M2.same r hr
 obtain⟨y,H4,e3,O,s4⟩:=ajF hx3 hl;let a:=six H4.next q1 q2 0 0 0
 let xs:List AV:=c.av++[I me,.ref q1 0 0,.ref q2 0 0,y,B false,zN,B false,zI,zI,zI,zI,zI,zI,zN,zI,zI,I 0]
 have hy:One y:=by
  rcases O with⟨rfl,_⟩|⟨r,g,off,n,cap,ex,ty',all,rfl,_⟩
  ·exact qx
  ·exact uD
 have ax:xs.all AV.aP=true:=by simp only [xs,zbj,fD,zcK,hy.2];rfl
 have M3:Made H3 (H4.new (.blk 0 244 xs)) (upd qE H4.next (Ej a c me (.new c l) [zI,zI,zI,zI,zI,zI,zN,zI,zI])):=by
  refine aeO (i0:=11) (m0:=3) (l0:=l.flatMap Opn.av) (y:=y) s4 ax (by simp [xs,Ej]) O λi cc x hc hx=>?_;rcases zaQ i 8 with hi|hi
  ·left;rw [Ej,zbc,zbc,zaJ (by simp [Cfg.av];omega),zaH] at hc;rw [zaJ (by simp [Cfg.av];omega)] at hx;rw [hx] at hc;exact(zaX hc).symm
  ·obtain⟨j,rfl⟩:∃j,i=8+j:=⟨i-8,by omega⟩
   match j with
   |0|1|2|4|6|7|8|9|10|11|12|13|14|15|16=>left;cases hc;cases hx;rfl
   |3=>right;right;cases hc;cases hx;exact⟨rfl,rfl,rfl⟩
   |5=>right;left;cases hc;cases hx;exact⟨rfl,1,rfl⟩
   |j+17=>exfalso;have:=(zae.1 hx).1;simp [xs,Cfg.av] at this;omega
 have g1:H1.get H.next=.blk 0 26 c.av:=aZ rfl
 have l1:H.next<H1.next:=by simp only [H1,eX];omega
 have l2:H.next<H2.next:=zay l1 M1.next
 have g2:H2.get H.next=.blk 0 26 c.av:=by rw [M1.same _ l1,g1]
 have g3:H3.get H.next=.blk 0 26 c.av:=by rw [M2.same _ l2,g2]
 have l3:H.next<H3.next:=zay l2 M2.next
 have g4:H4.get H.next=H3.get H.next:=s4.low _ l3
 have b1:=jJ g1;have b2:=jJ g2;have ec:∀{β:Type} (k:Option β),ck (bT (.ref H.next 0 0)) H3 H4 k=k:=λk=>Yh λr hr=>by cases hr;exact g4
 have G12:=M1.good.merge M2;refine⟨_,a,_,bC rfl rfl (anf _ _ _ _ _ (r:=(_,H4.new (.blk 0 244 xs))) ?_),((M1.trans M2).trans M3).zy,?_⟩
 ·have e:bd 244 [(0,.agg c.av),(1,I me),(2,.ref q1 0 0),(3,.ref q2 0 0),(4,y)]=some (.agg xs):=by
   simp only [xq_,alC,jf,fK,agh,Cfg.av,fA,hy.1];rfl
  have l3:c.av[3]?=some (I c.sets):=rfl;have l4:c.av[4]?=some (I c.ways):=rfl;simp only [H1] at e1 b1;simp only [Nat.reduceLT,xq_,hq_,agQ,aG (fD c),b1,l3,l4,e1,b2,e2,e3,e,aG ax,ec];rfl
 ·have z:zV (aqJ (cup H3.next (cup H2.next (upd qE q1 (Dc ⟨[],c.sets,c.ways,0⟩ [])) (upd qE q2 (qA c me ((gZ.new c).dJ.flatMap Row.av) ⟨[],[]⟩))) (upd qE H4.next (Ej a c me (.new c l) [zI,zI,zI,zI,zI,zI,zN,zI,zI])))) (gZ.new c).dJ ((gZ.new c).dJ.flatMap Row.av):=zV.of λr _=>aiG r;exact⟨⟨[zI,zI,zI,zI,zI,zI,zN,zI,zI],⟨zN,.inl (by simp [jE.new,bM.zero,dat,gI]),by simp [jE.new,bM.zero,bM.avx]⟩,lZ M3.good aQ (zac _)⟩,⟨[],.nil,jU G12 (jU M1.good aQ rfl) rfl⟩,⟨_,z,jU G12 (lZ M2.good aQ (zac _)) rfl⟩⟩
def pz.atx {g:bD}{a:Nat->Nat}{c:Cfg}{me:Int}{n:jE}(h:pz g a c me n){s:Nat}(hs:s<3):∃l,g (a s)=some l:=by
 obtain⟨⟨_,_,b⟩,⟨_,_,d⟩,⟨_,_,e⟩⟩:=h
 match s,hs with
 |0,_=>exact⟨_,b⟩
 |1,_=>exact⟨_,d⟩
 |2,_=>exact⟨_,e⟩
def pz.ext {g g':bD}{a:Nat->Nat}{c:Cfg}{me:Int}{n:jE}(h:pz g a c me n)(hd:∀q cs,g q=some cs->¬XV cs->g' q=some cs)(b:∀s,s<3->g' (a s)=g (a s)):pz g' a c me n:=by
 obtain⟨⟨d,⟨x,m,o⟩,p⟩,⟨cells,k,u⟩,⟨dJ,r,v⟩⟩:=h;exact⟨⟨d,⟨x,m.sub hd,o⟩,by rw [b 0 V,p]⟩,⟨cells,k.mono λe cs _ ⟨x,i,j⟩=>⟨x,i.sub hd,j⟩,by rw [b 1 V,u]⟩,⟨dJ,r.mono λe cs _ ⟨x,i,j⟩=>⟨x,i.sub hd,j⟩,by rw [b 2 V,v]⟩⟩
def pz.inj {g:bD}{a:Nat->Nat}{c:Cfg}{me:Int}{n:jE}(h:pz g a c me n){s t:Nat}(hs:s<3)(b:t<3)(e:a s=a t):s=t:=by
 obtain⟨⟨d,⟨x,_,rfl⟩,i⟩,⟨_,_,j⟩,⟨_,_,k⟩⟩:=h;have m:(g (a s)).map List.length=(g (a t)).map List.length:=by rw [e]
 match s,hs,t,b with
 |0,_,0,_|1,_,1,_|2,_,2,_=>rfl
 |0,_,1,_|0,_,2,_|1,_,0,_|1,_,2,_|2,_,0,_|2,_,1,_=>simp [i,j,k,Ej,Dc,qA,bM.avx,Cfg.av] at m
def pz.lens {g:bD}{a:Nat->Nat}{c:Cfg}{me:Int}{n:jE}(h:pz g a c me n){s:Nat}(hs:s<3):∃l,g (a s)=some l/\XV l/\(l.length=25∨l.length=4∨l.length=12):=by
 obtain⟨⟨d,⟨x,_,rfl⟩,b⟩,⟨_,_,i⟩,⟨_,_,j⟩⟩:=h
 match s,hs with
 |0,_=>exact⟨_,b,⟨.av (.ref (a 1) 0 0),by simp [Ej],λn e=>by cases e⟩,by left;simp [Ej,bM.avx,Cfg.av]⟩
 |1,_=>exact⟨_,i,⟨.seq 6 _,by simp [Dc];rfl,λn e=>by cases e⟩,by right;left;simp [Dc]⟩
 |2,_=>exact⟨_,j,⟨.seq 3 _,by simp [qA];left;rfl,λn e=>by cases e⟩,by right;right;simp [qA,Cfg.av]⟩
def Yj {f:Nat}{N:Nat->Nat->Nat}{c:Cfg}{n:Nat}{ev:List Evn}:XV (rG f N c n ev):=⟨.av (.ref f 0 0),by simp [rG],λn e=>by cases e⟩
def UK(H:ah)(hb:H.base<=H.next)(c:Cfg)(h:c.ok=true){x:AV}{ps:List (List Opn)}(hx:WI H x ps)(hp:c.vT ps=true):
  ∃H' q f N g',cl 59 [.agg c.av,x] H=some (.tup [.ref q 0 0,B true],H')/\Made H H' g'/\Iu g' q f N (.new c ps):=by
 have Bd:=uK h;obtain⟨hp1,hp2⟩:=FZ hp;have hn:=Bd.aB;let H1:=H.new (.blk 0 26 c.av);have n1:H1.next=H.next+1:=rfl
 have g1:H1.get H.next=.blk 0 26 c.av:=aZ rfl
 have b1:=jJ g1;have e1:=abP H1 c;rw [h] at e1;have e2:=ajD H1 c h (hx.iZ (H':=H1) (by omega) λr hr=>bJ hr) (by omega) λl hl=>by have:=hp2 l hl;omega
 rw [hp] at e2;obtain⟨H2',f,e4,M1⟩:=ajE H1.guard c h;obtain⟨H2,e4,M1⟩:=drawn e4 M1;let K:=H2.next
 let xs:List AV:=c.av++[.ref f 0 0,zN,zN]
 have hall:xs.all AV.aP=true:=by simp only [xs,zbj,fD];rfl
 have bx:∀H':ah,(∀r,r<H1.next->H'.get r=H1.get r)->H'.get H.next=.blk 0 26 c.av:=λH' hs=>by rw [hs _ (by omega),g1]
 have M2:Made H2 (H2.new (.blk 0 185 xs)) (upd qE K (rG f (λ_ _=>0) c 0 [])):=by
  refine lH hall (by simp [xs,rG]) λi cc y hc hy=>?_;rcases zaQ i 8 with hi|hi
  ·left;rw [rG,zaJ (by simp [Cfg.av];omega),zaH] at hc;rw [zaJ (by simp [Cfg.av];omega)] at hy;rw [hy] at hc;exact(zaX hc).symm
  ·obtain⟨j,rfl⟩:∃j,i=8+j:=⟨i-8,by omega⟩
   match j with
   |0=>left;cases hc;cases hy;rfl
   |1=>right;cases hc;cases hy;exact⟨rfl,1,rfl⟩
   |2=>right;cases hc;cases hy;exact⟨rfl,4,rfl⟩
   |j+3=>exfalso;have:=(zae.1 hy).1;simp [xs,Cfg.av] at this;omega
 have M0:=M1.add M2;let g0:=upd (upd qE f (XW c (List.replicate (4*c.aB.toNat) []))) K (rG f (λ_ _=>0) c 0 []);have key:∀k i,i+k=ps.length->∀Hi gi N,Made H1 Hi gi->gi K=some (rG f N c i [])->(∀q,q<K->gi q=g0 q)->(∀(j:Nat) l,j<i->ps[j]?=some l->pz gi (N j) c j (.new c l))->aqL N i->
   ∃H' g' N',Oj cl [x,.ref H.next 0 0,.ref K 0 0,I i] Hi=some (.tup [.ref K 0 0,B true],H')/\Made H1 H' g'/\g' K=some (rG f N' c ps.length [])/\(∀q,q<K->g' q=g0 q)/\(∀(j:Nat) l,j<ps.length->ps[j]?=some l->pz g' (N' j) c j (.new c l))/\aqL N' ps.length:=by
  intro k
  induction k with
  |zero=>
   intro i hi Hi gi N M hm hlow hnd hj;have l0:ld (.ref H.next 0 0) Hi=some (I c.aB,Hi):=by rw [fJ (bx Hi M.same)];rfl
   have h1:¬(i:Int)<c.aB:=by omega
   have hi':ps.length=i:=by omega
   rw [aaI];refine⟨Hi,gi,N,?_,M,by rw [hi'];exact hm,hlow,by rw [hi'];exact hnd,by rw [hi'];exact hj⟩;simp only [xq_,l0,h1]
  |succ k ih=>
   intro i hi Hi gi N M hm hlow hnd hj;have l0:ld (.ref H.next 0 0) Hi=some (I c.aB,Hi):=by rw [fJ (bx Hi M.same)];rfl
   have h1:(i:Int)<c.aB:=by omega
   have h6:(i:Int)+1=((i+1:Nat):Int):=by omega
   have h7:=wrap_i64 (a:=((i+1:Nat):Int)) (by omega) (by omega);have hxi:=hx.iZ (H':=Hi) (zaz (by omega) M.next) λr hr=>by rw [M.same r (by omega)];exact bJ hr
   obtain⟨cells,x1,x2⟩:=hxi;have hcl:cells.length=ps.length:=by have:=x1.1;omega
   have s1:=x1.ix (k:=.i64) (i:=(i:Int)) (by omega) (by omega);rw [zar] at s1;have s2:=x1.ld (i:=i) (by omega);obtain⟨v,hv⟩:∃v,cells[i]?=some v:=⟨_,zab (by omega)⟩
   obtain⟨l,hl⟩:∃l,ps[i]?=some l:=⟨_,zab (by omega)⟩
   rw [hv] at s2;obtain⟨v1,v2⟩:=x2 i v l hv hl;have s4:=jJ (bx Hi M.same);obtain⟨y,hy,cy⟩:=M.good.seq hm (i:=9) (m:=1) (l:=qh N i) rfl;obtain⟨Ha',a,ga,a1,Ma,Ia⟩:=aeP Hi.guard c h i l (by have:=hp2 l (zan hl);omega) v1.guard;obtain⟨Ha,a1,Ma⟩:=drawn a1 Ma;have Na:=M.trans Ma;let ga':=cup Hi.next gi ga
   have hK:=M.good.lt hm;have ahP:∀q,q<Hi.next->ga' q=gi q:=λq hq=>by simp only [ga',cup,hq,if_true]
   have asB:∀q cs,ga q=some cs->ga' q=some cs:=λq cs hq=>by
    have:=(Ma.lt hq).1;simp only [ga',cup];rw [if_neg (by omega),hq]
   have hma:ga' K=some (rG f N c i []):=by rw [ahP K hK,hm]
   let o:gu:=.blk 0 186 [.ref (a 0) 0 0];have hnl:(qh N i).length=i*1:=by simp [qh]
   obtain⟨y',He,Hf,t1,t2,t3,t4⟩:=(Na.good.new o).append (e:=186) (by_:=8) (by rw [jB,Na.base,n1];simp only [H1,jB];omega) hma (i:=9) (l:=qh N i) rfl (by decide) hnl ((cy.ext Ma.next Ma.same).new o) (kN (ex:=true) (n:=1) (m:=1) (l:=[.ref (a 0) 0 0]) rfl) rfl (by unfold most;omega) (by unfold most;omega);let N':Nat->Nat->Nat:=λj=>if j=i then a else N j
   have hN:∀j,j<i->N' j=N j:=λj hj=>by simp only [N'];rw [if_neg (by omega)]
   have hNi:N' i=a:=by simp only [N',if_true]
   have Mf:Made H1 Hf (upd ga' K (rG f N' c (i+1) [])):=by
    refine((Na.new o).step t3 t4).as ?_
    congr 1
    show rG f N' c (i+1) []=_;have:=IZ (N:=N) (N':=N') hN;simp only [qh] at this;simp only [rG];rw [this,hNi];rfl
   have dat:∀q cs,ga' q=some cs->¬XV cs->upd ga' K (rG f N' c (i+1) []) q=some cs:=λq cs hq hd=>by
    rw [bn];exact hq;intro e;subst e;rw [hma] at hq;cases hq;exact hd Yj
   have hal:∀s,s<3->Hi.next<=a s/\ga' (a s)=ga (a s):=λs hs=>by
    obtain⟨l,hg⟩:=Ia.atx hs;have:=(Ma.lt hg).1;exact⟨this,by simp only [ga',cup];rw [if_neg (by omega)]⟩
   have hNl:∀j,j<i->∀s,s<3->N j s<Hi.next:=λj hji s hs=>by
    obtain⟨lj,hlj⟩:∃l,ps[j]?=some l:=⟨_,zab (by omega)⟩
    obtain⟨l,hg⟩:=(hnd j lj hji hlj).atx hs;exact M.good.lt hg
   obtain⟨H',g',N'',r1,r2⟩:=ih (i+1) (by omega) Hf _ N' Mf aQ (λq hq=>by
    rw [bn (by omega),ahP q (by omega),hlow q hq]) (λj lj hj1 hlj=>by
    by_cases hji:j=i
    ·subst hji;rw [hl] at hlj;cases hlj;rw [hNi];exact Ia.ext (λq cs hq hd=>dat q cs (asB q cs hq) hd) λs hs=>by
      obtain⟨h1,h2⟩:=hal s hs;rw [bn (by omega),h2]
    ·rw [hN j (by omega)];refine(hnd j lj (by omega) hlj).ext (λq cs hq hd=>dat q cs (by rw [ahP q (M.good.lt hq),hq]) hd) λs hs=>?_;have hlt:=hNl j (by omega) s hs;have hne:N j s≠K:=λe=>by
      obtain⟨l',hg,_,hl'⟩:=(hnd j lj (by omega) hlj).lens hs;rw [e,hm] at hg;cases hg;simp [rG,Cfg.av] at hl'
     rw [bn hne,ahP _ hlt]) (λj k s t hj1 hk1 hs ht e=>by
    by_cases hji:j=i
    ·by_cases hki:k=i
     ·subst hji;subst hki;rw [hNi] at e;exact⟨rfl,Ia.inj hs ht e⟩
     ·subst hji;rw [hNi,hN k (by omega)] at e;have:=(hal s hs).1;have:=hNl k (by omega) t ht;omega
    ·by_cases hki:k=i
     ·subst hki;rw [hNi,hN j (by omega)] at e;have:=(hal t ht).1;have:=hNl j (by omega) s hs;omega
     ·rw [hN j (by omega),hN k (by omega)] at e;exact hj j k s t (by omega) (by omega) hs ht e)
   refine⟨H',g',N'',?_,r2⟩;rw [aaI];have eb:=kZ (e:=186) (m:=1) (z:=[zP]) (v:=.ref (a 0) 0 0) (H:=Ha) rfl rfl rfl;have ec:(AV.ref (a 0) 0 0).cells=[.ref (a 0) 0 0]:=rfl;rw [ec] at eb;simp only [o] at t1 t2;simp only [Nat.reduceLeDiff,xq_,hq_,l0,h1,s1,s2,s4,hy,a1,ala,zbh,eb,t1,t2,cZ,h6,h7,r1]
 have hf:=M1.lt aQ;obtain⟨H',g',N,r1,r2,r3,r4,r5,r6⟩:=key ps.length 0 (by omega) _ g0 (λ_ _=>0) M0 aQ (λq hq=>rfl) (λj l hj=>by omega) (λi j s t hi=>by omega);refine⟨H',K,f,N,g',bC rfl rfl (arE _ _ _ _ (r:=(_,H')) ?_),r2.zy,?_⟩
 ·have b2:=jJ (bx H2 M1.same);have em:bd 185 [(0,.agg c.av),(1,.ref f 0 0)]=some (.agg xs):=by
   simp only [xq_,alx,jf,fK,aga,Cfg.av,fA];rfl
  simp only [H1] at b1 e1 e2 e4;simp only [Nat.reduceLT,xq_,hq_,amI,aG (fD c),b1,e1,e2,zaf,e4,em,aG hall];exact r1
 ·have gf:g' f=some (XW c (List.replicate (4*c.aB.toNat) [])):=by
   rw [r4 f hf.2];simp only [g0];rw [bn (by omega),aQ]
  refine⟨by rw [r3];simp [jO.new],⟨_,gf,by simp [jO.new],λi l cells hl hc=>?_⟩,λi n hi=>?_,by simp only [jO.new,zaE];exact r6⟩
  ·have h1:l=[]:=by
    have hm:=zan hl;simp only [jO.new,za0] at hm;obtain⟨p,hp,hl2⟩:=hm;rw [zbY hp] at hl2
    simpa [agG,Port.zero] using hl2
   rw [zbB] at hc;split at hc
   ·cases hc;rw [h1];exact .nil
   ·cases hc
  ·simp only [jO.new,zaH,zb5] at hi;obtain⟨l,hl,rfl⟩:=hi;exact r5 i l (zae.1 hl).1 hl
def aeQ(a b:Bool):bi .neq 4 (B a) (B b)=some (B (!decide (a=b))):=by
 cases a <;> cases b <;> kernel_rfl
structure mD(H:ah)(x:AV)(l:List Int):Prop where
 is:aN H x 1 l.length (l.map I)
 one:One x
 nil:l=[]->x=zN
def qO(H:ah)(l:List Int):mD H (dat l) l:=⟨kY H l,tV,λh=>by rw [h,dat,gI]⟩
def mD.guard {H:ah}{x:AV}{l:List Int}(h:mD H x l):mD H.guard x l:=⟨h.is.guard,h.one,h.nil⟩
def mD.new {H:ah}{x:AV}{l:List Int}(h:mD H x l)(o:gu):mD (H.new o) x l:=⟨h.is.new o,h.one,h.nil⟩
def mD.iZ {H H':ah}{x:AV}{l:List Int}(h:mD H x l)(b:H.next<=H'.next)(d:∀r,r<H.next->H'.get r=H.get r):mD H' x l:=⟨h.is.iZ b λr _ e=>d r e,h.one,h.nil⟩
def F5 {p:Pkt}{x:AV}(h:One x):(p.avx x).all AV.aP=true:=by simp [Pkt.avx,iP,kW,h.2]
def aeR {p:Ent}{x:AV}(h:One x):(p.avx x).all AV.aP=true:=by simp [Ent.avx,iP,kW,h.2]
section
variable {b:Nat}{H H':ah}{g:bD}{q:Nat}{cs:List Cell}
def OS.own {τ:Nat->Option Tag}{T:Tag}{x:AV}{m:Nat}{l:List AV}(h:OS b H τ T x m l):Own b H x m l:=by
 rcases h with h|⟨r,g,off,n,d,ex,e,all,i,_,j⟩
 ·exact .inl h
 ·exact .inr ⟨r,g,off,n,d,ex,e,all,i,j⟩
def Own.one {x:AV}{m:Nat}{l:List AV}(h:Own b H x m l):One x:=by
 rcases h with⟨rfl,_⟩|⟨r,g,off,n,d,ex,e,all,rfl,_⟩
 ·exact qx
 ·exact uD
def WT {α:Type}:∀{es:List (Int × α)} {n:Int} {v:α},jC es n=some v->∃j:Nat,es[j]?=some (n,v)/\∀k,k<j->∀e,es[k]?=some e->e.1≠n
 |[],_,_,h=>by cases h
 |(k,w)::es,n,v,h=>by
  simp only [jC] at h;split at h
  ·rename_i e;subst e;cases h;exact⟨0,rfl,λk hk=>V⟩
  ·rename_i e;obtain⟨j,d,g⟩:=WT h;refine⟨j+1,d,λk hk x b=>?_⟩;cases k with
   |zero=>cases b;exact e
   |succ k=>exact g k V x (by simpa using b)
def I7 {α:Type}:∀{es:List (Int × α)} {n:Int},jC es n=none↔n∉es.map (·.1)
 |[],_=>by simp [jC]
 |(k,w)::es,n=>by
  simp only [jC];by_cases e:k=n
  ·simp [e]
  ·simp only [e,if_false,zax,zaj,not_or];rw [I7];exact⟨λh=>⟨λb=>e b.symm,h⟩,λh=>h.2⟩
def uN:∀(es:List (Int × AV)) (n:Int),qY es n=jC es n
 |[],_=>rfl
 |(k,w)::es,n=>by
  simp only [qY,jC];split
  ·rfl
  ·exact uN es n
def Ru {α β:Type}:∀{es:List (Int × α)} {b:List (Int × β)} {n:Int},b.map (·.1)=es.map (·.1)->(jC es n=none↔jC b n=none):=by
 intro es b n h;rw [I7,I7,h]
def I8 {α β:Type}:∀{es:List (Int × α)} {b:List (Int × β)} {n:Int} {v:α},b.map (·.1)=es.map (·.1)->jC es n=some v->∃(j:Nat) (w:β),jC b n=some w/\es[j]?=some (n,v)/\b[j]?=some (n,w)
 |[],_,_,_,_,h=>by cases h
 |(k,g)::es,[],_,_,h,_=>by simp at h
 |(k,g)::es,(k',w0)::b,n,v,h,d=>by
  simp only [zax,zbU] at h;obtain⟨rfl,h⟩:=h;simp only [jC] at d ⊢;split at d
  ·rename_i e;subst e;cases d;exact⟨0,w0,O,rfl,rfl⟩
  ·rename_i e;obtain⟨j,w,i,m,o⟩:=I8 h d;exact⟨j+1,w,by simp only [e,if_false];exact i,m,o⟩
def Good.maps(G:Good b H g)(h:g q=some cs){i m:Nat}{k:IntKind}{es:List (Int × List AV)}(hi:cs[i]?=some (.maps k m es)):
  ∃r,ld (.ref q 0 i) H=some (.mp r,H)/\lnM (.mp r) H=some (I es.length,H)/\∀z n,∃x,(jC es n=none->x=.s z)/\(∀l,jC es n=some l->Own b H x m l)/\∀ok,lk k z (.mp r) (.s (.int k n)) ok H=some ((if ok then .tup [x,B (jC es n).isSome] else x),H):=by
 obtain⟨h0,τ,hR⟩:=G;have R:=hR q cs h;obtain⟨ty,xs,h1,h2,h3,h4⟩:=R.blk;have hlt:i<xs.length:=by rw [h2];exact(zae.1 hi).1
 have hx:xs[i]?=some (xs[i]'hlt):=zab hlt;have:=h4 i _ _ hi hx;simp only [CR] at this;obtain⟨aes,⟨r,e,t1,t2,t3,t4⟩,a2,a3⟩:=this;rw [e] at hx;refine⟨r,by rw [fJ h1,hx];rfl,?_,λz n=>?_⟩
 ·simp only [lnM,kS,bT,zak,aqy,t4];have:=congrArg List.length a2;simp only [zaE] at this;rw [this]
 ·cases hn:jC es n with
  |none=>
   have hf:qY aes n=none:=by rw [uN];exact(Ru a2).1 hn
   refine⟨.s z,λ_=>rfl,λl hl=>(by cases hl),λok=>?_⟩;simp only [lk,kS,bT,zak,lkO,t4,and_self,if_true,hf];cases ok <;> rfl
  |some l=>
   obtain⟨j,w,b1,b2,b3⟩:=I8 a2 hn;refine⟨w,λh=>(by cases h),λl' hl=>(by cases hl;exact(a3 j n l w b2 b3).own),λok=>?_⟩;simp only [lk,kS,bT,zak,lkO,t4,and_self,if_true,uN,b1];cases ok <;> rfl
end
def Rw(H:ah){l:List Int}(hl:l.length<1000000000){x:AV}(hx:mD H x l):cl 55 [x] H=some (dat l,H):=by
 by_cases h:l=[]
 ·rw [hx.nil h];subst h;have t:=kC H [] (by simp);have z:dat ([]:List Int)=zN:=by simp [dat,gI]
  rw [z] at t ⊢;exact t
 ·have h0:l.length≠0:=λe=>h (zat e);have e2:=xG (e:=3) (by_:=8) (r:=H.guard.next) (H:=H.guard.new (.blk 0 3 [])) rE (hx.is.guard.new _) (yH l) h0 (by unfold most;omega) (by unfold most;omega);simp only [Ai,eX] at e2;refine jD rfl rfl (aef _ _ _ (r:=(.sl (H.next+1) 0 0 1 l.length l.length false,(H.guard.new (.blk 0 3 [])).new (.blk 0 (3+iC) (l.map I)))) ?_) ?_
  ·have e1:bi .eql 22 x zN=some (B false):=aN.abD Tryz.underlying22 hx.is h0;simp only [xq_,aaG,e1,QB,Io,e2,zbD,zaY]
  ·rw [xQ h];refine oh (by omega) (cells:=l.map I) ?_ (jh _ λx hx=>yI l x hx _ _);simp only [dH,jA,eX,Ai,if_true];rw [if_pos (by simp),zaS,zaw (by simp)]
def OT(e:Ent){d:Nat}:∀x∈e.av,Frz (d+2) x:=λx b=>by
 simp only [Ent.av,zaj,zaA,or_false] at b;rcases b with rfl|rfl|rfl|rfl|rfl|rfl <;> first|exact iD|exact vS
def ajG(e:Row){d:Nat}:∀x∈e.av,Frz (d+2) x:=λx b=>by
 simp only [Row.av,zaj,zaA,or_false] at b;rcases b with rfl|rfl|rfl <;> first|exact iD|exact vS
def vX:Ent.zero.av=[zI,zI,zI,zI,zB,zN]:=by simp [Ent.zero,Ent.av,dat,gI]
def aeS:Row.zero.av=[zI,zI,zN]:=by simp [Row.zero,Row.av,dat,gI]
def WU(H:ah)(e:Ent){x:AV}(g:e.data.length<1000000000)(b:mD H x e.data):cl 133 [.agg (e.avx x)] H=some (.agg e.av,H):=by
 refine dD rfl rfl (anR _ _ _) ?_ (ny (OT e));have h:=λo d=>Rw ((H.guard.new o).new d) g ((b.guard.new o).new d);simp only [Nat.reduceLT,Nat.reduceAdd,aO,xq_,hq_,ag9,aG,b.one.2,Ent.avx,h,Ent.av]
section
variable {b:Nat}{H:ah}{g:bD}{q:Nat}
def auq(H:ah)(e:Ent){r:Nat}{aj:Int}(h:∀H':ah,H'.get=H.get->ld (.ref r 0 0) H'=some (I aj,H'))(hr:r<H.next):cl 176 [.agg e.av,.ref r 0 0] H=some (B (decide (e.aj=aj)),H):=by
 refine dD rfl rfl (aoz _ _ _ _) ?_ iD;have e1:=h H.guard rfl;simp only [Nat.reduceLT,xq_,hq_,ahF,aG,Ent.av,e1,hr]
def I9(G:Good b H g){c:Cache}(h:g q=some (dG c))(hl:c.l.length<1000000)(aj:Int):cl 132 [.ref q 0 0,I aj] H=some (I (FY (c.at_ aj)),H):=by
 refine dD rfl rfl (anQ _ _ _ _) ?_ iD;have G1:=G.guard.new (.blk 0 3 [I aj]);obtain⟨x,hx,c1⟩:=G1.seq h (i:=0) rfl;have hs:=c1.is (by decide) (dM dW c.l);have e2:=Rh (H.guard.new (.blk 0 3 [I aj])) (enc:=Ent.av) dW (f:=.fn (.func 176) [] [.ref H.next 0 0]) hs (by omega) (λe=>decide (e.aj=aj)) (λe _=>by
  rw [uF (by kernel_rfl)];exact auq _ e (λH' hg=>by rw [fJ (g:=0) (ty:=3) (xs:=[I aj]) (by rw [hg];exact aZ rfl)];rfl) (by rw [eX,Ai];omega))
 have eb:gV 3 (I aj) H.guard=some (.ref H.next 0 0,H.guard.new (.blk 0 3 [I aj])):=rfl;simp only [xq_,ag8,eb,hx,e2];rfl
def sW {α:Type}{p:α->Bool}:∀l:List α,(l.findIdx? p).bind (λi=>l[i]?)=l.find? p
 |[]=>rfl
 |a::l=>by
  rw [zcR,List.find?_cons];cases h:p a with
  |true=>simp
  |false=>
   simp only [zai,if_false];rw [<-sW l];cases l.findIdx? p <;> simp
def ql(o:Option Ent):AV:=.tup [.agg (o.getD .zero).av,B o.isSome]
def Yk(o:Option Ent):Frz 9 (ql o):=vP λx b=>by
 simp only [zaj,zaA,or_false] at b;rcases b with rfl|rfl
 ·exact ny (OT _)
 ·exact iD
def rO(G:Good b H g){c:Cache}(h:g q=some (dG c))(y:c.l.length<1000000)(hd:∀e∈c.l,e.data.length<1000000000)(aj:Int):cl 87 [.ref q 0 0,I aj] H=some (ql (c.find aj),H):=by
 refine dD rfl rfl (ar6 _ _ _ _) ?_ (Yk _);have u:=G.guard.new (.blk 0 166 [zI,zI,zI,zI,zB,zN]);have d:=I9 u h y aj;have j:c.find aj=(c.at_ aj).bind λi=>c.l[i]?:=(sW c.l).symm;cases ha:c.at_ aj with
 |none=>
  rw [ha] at d j;have m:FY (none:Option Nat)=-1:=rfl;rw [m] at d;simp only [Int.reduceLT,Int.reduceNeg,Nat.reduceAdd,aO,xq_,hq_,ajg,d,af9,jf,eu,j,ql,vX,za5,zaK,Option.bind_none]
 |some i=>
  rw [ha] at d j;have hi:i<c.l.length:=zbE.1 ha |>.1
  obtain⟨e,o⟩:∃e,c.l[i]?=some e:=⟨_,zab hi⟩
  have m:FY (some i)=(i:Int):=rfl;rw [m] at d;have z:¬(i:Int)<0:=V
  obtain⟨x,A,C⟩:=u.seq h (i:=0) rfl;have hs:=C.is Z (dM dW c.l);have v:=hs.ix (k:=.i64) (i:=(i:Int)) V V;rw [zar] at v;have D:=mW dW hs o;have w:=λH=>WU H e (hd e (zan o)) (qO H e.data);have E:e.avx (dat e.data)=e.av:=rfl;rw [E] at w;have p:c.find aj=some e:=by rw [j];exact o
  simp only [Nat.reduceAdd,aO,xq_,hq_,ajg,d,z,A,v,D,w,p,ql,zav,zaL]
def aoY(G:Good b H g){c:Cfg}{dJ:Rows}(h:g q=some (EP c dJ))(hd:∀e∈dJ,e.2.data.length<1000000000)(aj:Int):cl 167 [.ref q 0 0,I aj] H=some (.tup [.agg (jq dJ aj).av,B (jC dJ aj).isSome],H):=by
 refine dD rfl rfl (aop _ _ _ _) ?_ (vP λx p=>?_)
 ·have v:=G.guard.new (.blk 0 199 [zI,zI,zN]);obtain⟨r,u,y,_⟩:=v.map h (i:=8) rfl;have d:=y (.agg #[.int .i64 0,.int .i64 0,.slice none 0 0]) aj true;rw [yA] at d;cases k:jC dJ aj with
  |none=>
   have m:=λH=>kC H [] O;have z:dat ([]:List Int)=zN:=by simp [dat,gI]
   rw [z] at m;have A:AV.cells (.s (.agg #[.int .i64 0,.int .i64 0,.slice none 0 0]))=[zI,zI,zN]:=rfl;simp only [k,zda,if_true] at d;have C:zN.aP=true:=rfl;have o:zN.cells=[zN]:=rfl;simp only [Nat.reduceAdd,aO,xq_,hq_,aa8,u,d,A,m,jq,k,aeS,za5,zaK,C,o]
  |some w=>
   simp only [k,zak,if_true] at d;have hm:w.data.length<1000000000:=by
    obtain⟨j,D,_⟩:=WT k;exact hd _ (zan D)
   have m:=λH=>kC H w.data hm;simp only [Nat.reduceAdd,aO,xq_,hq_,aa8,u,d,Row.av,m,jq,k,zav,zaL]
 ·simp only [zaj,zaA,or_false] at p;rcases p with rfl|rfl
  ·exact ny (ajG _)
  ·exact iD
def Yl(G:Good b H g){t:Turns}(h:g q=some (iR t))(aj:Int):cl 187 [.ref q 0 0,I aj] H=some (I (t.owner aj),H):=by
 refine dD rfl rfl (aoF _ _ _ _) ?_ iD;obtain⟨r,j,k,_⟩:=G.guard.map h (i:=0) rfl;have d:=k (.int .i64 0) aj true;rw [yA] at d;cases e:jC t.gG aj with
 |none=>
  simp only [e,zda,if_true] at d;simp only [Int.reduceNeg,xq_,abg,j,d,Turns.owner,e,za5]
 |some w=>
  simp only [e,zak,if_true] at d;simp only [Int.reduceNeg,xq_,abg,j,d,Turns.owner,e,zav]
def yL(G:Good b H g){t:Turns}(h:g q=some (iR t))(aj:Int):cl 165 [.ref q 0 0,I aj] H=some (B (t.owned aj),H):=by
 refine dD rfl rfl (aon _ _ _ _) ?_ iD;obtain⟨r,j,k,_⟩:=G.guard.map h (i:=0) rfl;have d:=k (.int .i64 0) aj true;rw [yA] at d;cases e:jC t.gG aj with
 |none=>
  simp only [e,zda,if_true] at d;simp only [xq_,aa7,j,d,Turns.owned,e,zaK]
 |some w=>
  simp only [e,zak,if_true] at d;simp only [xq_,aa7,j,d,Turns.owned,e,zaL]
def JH(w:Int × Int):List AV:=[I w.1,I w.2]
def OU {α β:Type}(f:α->β):∀(es:List (Int × α)) (n:Int),jC (es.map λe=>(e.1,f e.2)) n=(jC es n).map f
 |[],_=>rfl
 |(k,v)::es,n=>by
  simp only [zax,jC];split
  ·rfl
  ·exact OU f es n
def aoZ(G:Good b H g){t:Turns}(h:g q=some (iR t))(aj:Int):∃r x,ld (.ref q 0 1) H=some (.mp r,H)/\lk .i64 (.slice none 0 0) (.mp r) (I aj) false H=some (x,H)/\Own b H x 2 ((t.ws aj).flatMap JH):=by
 obtain⟨r,k,_,m⟩:=G.maps h (i:=1) rfl;obtain⟨x,d,e,o⟩:=m (.slice none 0 0) aj;refine⟨r,x,k,o false,?_⟩;rw [OU (λl:List (Int × Int)=>l.flatMap λw=>[I w.1,I w.2])] at d e;simp only [show(λw:Int × Int=>[I w.1,I w.2])=JH from rfl] at d e;cases j:jC t.wait aj with
 |none=>
  rw [j] at d;exact .inl ⟨d rfl,by simp [Turns.ws,j]⟩
 |some w=>
  rw [j] at e;have:=e _ rfl
  simpa [Turns.ws,j] using this
def xZ(G:Good b H g){t:Turns}(h:g q=some (iR t))(aj:Int):cl 166 [.ref q 0 0,I aj] H=some (I (t.ws aj).length,H):=by
 refine dD rfl rfl (aoo _ _ _ _) ?_ iD;obtain⟨r,x,d,i,j⟩:=aoZ G.guard h aj;have e:=(j.is (n:=(t.ws aj).length) Z (dM (enc:=JH) (λ_=>rfl) _)).lnS;simp only [xq_,ahz,d,i,e]
def aeT(G:Good b H g){A:Adr}{m:bW}(M:gJ g A m)(j:m.aB.length<1000)(i:Int):cl 60 [.ref A.iI 0 0,I i] H=some (if 0<=i/\i<m.aB.length then .ref (A.N i.toNat 0) 0 0 else zP,H):=by
 obtain⟨x,o,c⟩:=G.guard.seq M.iI (i:=10) rfl;have hs:=c.is (n:=m.aB.length) Z (xX _ _);have p:=hs.lnS;have d:bV H.guard H.next 9 (if 0<=i/\i<m.aB.length then .ref (A.N i.toNat 0) 0 0 else zP)=some (if 0<=i/\i<m.aB.length then .ref (A.N i.toNat 0) 0 0 else zP):=by
  split
  ·rename_i h;obtain⟨n,j⟩:∃n,m.aB[i.toNat]?=some n:=⟨_,zab V⟩
   have:=G.lt (M.bF _ n j).1;rw [bV];simp only [this,if_true]
  ·exact jo
 refine jD rfl rfl (arF _ _ _ _ (r:=(_,H.guard)) ?_) d;by_cases e:i<0
 ·have:¬(0<=i/\i<m.aB.length):=V
  rw [if_neg this];simp only [xq_,aeg,e]
 ·by_cases q:(m.aB.length:Int)<=i
  ·have:¬(0<=i/\i<m.aB.length):=V
   rw [if_neg this];simp only [xq_,aeg,e,o,p,q]
  ·have:0<=i/\i<m.aB.length:=V
   rw [if_pos this];have v:=hs.ix (k:=.i64) (i:=i) V V;have u:=hs.ld (i:=i.toNat) V;rw [I5 V] at u;simp only [xq_,aeg,e,o,p,q,v,u]
end
def x8:List (List Pkt)->Nat->Int->Option (Nat × Int)
 |[],_,_=>none
 |l::ls,j,at_=>if 0<=at_/\at_<l.length then some (j,at_) else x8 ls (j+1) (at_-l.length)
def uO:∀{ls:List (List Pkt)} {j:Nat} {at_:Int} {b:Nat} {k:Int},x8 ls j at_=some (b,k)->j<=b/\∃l,ls[b-j]?=some l/\0<=k/\k<l.length/\0<=at_/\ls.flatten[at_.toNat]?=l[k.toNat]?
 |[],_,_,_,_,h=>by cases h
 |l::ls,j,at_,b,k,h=>by
  simp only [x8] at h;split at h
  ·rename_i hc;cases h;refine⟨zac _,l,O,hc.1,hc.2,hc.1,?_⟩;rw [zdP,zaJ V]
  ·rename_i hc;obtain⟨o,d,e,g,i,p,m⟩:=uO h;refine⟨V,d,by rw [show b-j=(b-(j+1))+1 by omega];simpa using e,g,i,V,?_⟩;rw [zdP,za3 V,<-m]
   congr 1;omega
def DF:∀{ls:List (List Pkt)} {j:Nat} {at_:Int},x8 ls j at_=none->at_<0∨(ls.flatten.length:Int)<=at_
 |[],_,_,_=>by simp;omega
 |l::ls,j,at_,h=>by
  simp only [x8] at h;split at h
  ·cases h
  ·rename_i hc;have:=DF h;rw [zdP,zaq];omega
def DI:∀l:List Port,(l.flatMap λp=>[p.rq,p.an]).flatten=l.flatMap λp=>p.rq++p.an
 |[]=>rfl
 |p::l=>by simp [DI l]
def lu(P:Nat->Nat->Nat)(j:Nat):List AV:=[.ref (P (j / 2) (if j % 2=0 then 0 else 2)) 0 0,.ref (P (j / 2) (if j % 2=0 then 1 else 3)) 0 0]
def Rx {P:Nat->Nat->Nat}{n j:Nat}(h:j<2*n):((iT P n).drop (j*2)).take 2=lu P j:=by
 have hi:j / 2<n:=V
 have b:=vO (m:=4) (enc:=λi=>pF (P i)) (λ_=>rfl) (List.range n) (j / 2) (j / 2) (zbz hi);rcases Nat.mod_two_eq_zero_or_one j with d|d
 ·have e:((iT P n).drop (j*2)).take 2=(((iT P n).drop (j / 2*4)).take 4).take 2:=by
   rw [zbZ,show j / 2*4=j*2 by omega];rfl
  rw [e];refine(congrArg (List.take 2) b).trans ?_;simp [lu,d,pF]
 ·have e:((iT P n).drop (j*2)).take 2=((((iT P n).drop (j / 2*4)).take 4).drop 2).take 2:=by
   rw [zcp,zbL,zbZ,show j / 2*4+2=j*2 by omega];rfl
  rw [e];refine(congrArg (λl=>(List.drop 2 l).take 2) b).trans ?_;simp [lu,d,pF]
def abU {g:bD}{f:Nat}{P:Nat->Nat->Nat}{c:Cfg}{fab:Fab}(F:iG g f P c fab){j:Nat}{l:List Pkt}(h:fab.jr[j]?=some l):
  g (P (j / 2) (if j % 2=0 then 0 else 2))=some (oz l c.out):=by
 have d:j<2*fab.l.length:=by
  have:=(zae.1 h).1
  rwa [Fab.jr,rM] at this
 obtain⟨k,a,a',e,b,i⟩:=F.ahQ d;rw [h] at e;cases e;rw [Rx d] at b;simp only [lu,zbU,AV.ref.injEq,and_true] at b;rw [b.1];exact i
section
variable {b:Nat}{H:ah}{g:bD}{f:Nat}{P:Nat->Nat->Nat}{c:Cfg}{fab:Fab}
def x9(P:Nat->Nat->Nat):Option (Nat × Int)->AV
 |some (j,k)=>.tup [.agg (lu P j),I k,B true]
 |none=>.tup [.agg [zP,zP],I 0,B false]
def abV(G:Good b H g)(F:iG g f P c fab)(hn:fab.l.length<1000)(h0:fab.l.length≠0)(hr:∀l∈fab.jr,l.length<1000)(at_:Int)(h64:nN at_):
  cl 52 [.ref f 0 0,I at_] H=some (x9 P (x8 fab.jr 0 at_),H):=by
 have hpl:fab.jr.length=2*fab.l.length:=rM _;have hpx:(iT P fab.l.length).length=(2*fab.l.length)*2:=by rw [iT,pY];omega
 let H0:=H.guard.new (.blk 0 99 [zP,zP]);have ep:=WL (G.guard.new (.blk 0 99 [zP,zP])) F hn h0;have xs:∀H':ah,aN H' (.vs (2*fab.l.length) 2 (iT P fab.l.length)) 2 (2*fab.l.length) (iT P fab.l.length):=λH'=>aN.vs hpx;let fnd:=x8 fab.jr 0 at_;have key:∀k j,j+k=2*fab.l.length->∀(Hi:ah) (a:Int),H0.next<=Hi.next->Hi.base=H.next->(∀r,r<H0.next->Hi.get r=H0.get r)->nN a->
   ((0<=a/\fnd=x8 (fab.jr.drop j) j a)∨((a<0∨9223372036854775808-1000-1000*(j:Int)<=a)/\fnd=none))->
   (Oe cl [I a,.ref H.next 0 0,.vs (2*fab.l.length) 2 (iT P fab.l.length),I (2*fab.l.length:Nat),I j] Hi).map Prod.fst=some (x9 P fnd):=by
  intro k
  induction k with
  |zero=>
   intro j hj Hi a n1 b1 s1 ha hc;have h1:¬(j:Int)<(2*fab.l.length:Nat):=by omega
   have hf:fnd=none:=by
    rcases hc with⟨_,hc⟩|⟨_,hc⟩
    ·rw [hc,zaV (by omega)];rfl
    ·exact hc
   have g0:Hi.get H.next=.blk 0 99 [zP,zP]:=by rw [s1 _ (by show H.next<H.next+1;omega)];exact aZ rfl
   have hb1:Hi.base<=H.next:=by omega
   have e0:bd 99 []=some (.agg [zP,zP]):=by simp only [xq_,alm,jf,fK]
   have e1:=agF (H:=Hi) (r:=H.next) (off:=0) (n:=2) (v:=.agg [zP,zP]) g0 hb1 rfl rfl (by decide);rw [hf,aaE];have e2:=iH (H:=Hi.put H.next (.blk 0 99 (aO [zP,zP] 0 [zP,zP]))) (r:=H.next) (off:=0) (n:=2) (g:=0) (ty:=99) (xs:=[zP,zP]) Ij (by decide);have hs:aO [zP,zP] 0 [zP,zP]=[zP,zP]:=rfl;simp only [fA,hs] at e1 e2;simp only [Nat.reduceAdd,aO,xq_,hq_,h1,e0,e1,e2,x9]
  |succ k ih=>
   intro j hj Hi a n1 b1 s1 ha hc;have h1:(j:Int)<(2*fab.l.length:Nat):=by omega
   have h6:(j:Int)+1=((j+1:Nat):Int):=by omega
   have h7:=wrap_i64 (a:=((j+1:Nat):Int)) (by omega) (by omega);have a1:=(xs Hi).ix (k:=.i64) (i:=(j:Int)) (by omega) h1;rw [zar] at a1;have a3:=(xs Hi).lda (i:=j) (by omega);rw [Rx (by omega)] at a3;obtain⟨l,hl⟩:∃l,fab.jr[j]?=some l:=⟨_,zab (by omega)⟩
   have p3:=abU F hl;have hlen:=hr l (zan hl);let H1:=Hi.new (.blk 0 99 (lu P j));have G1:Good b H1 g:=(((G.guard.new _).ext n1 s1).new _)
   have e3:=abG G1 p3;have sb:Hi.base<=Hi.next:=by have:H.next+1<=Hi.next:=n1;omega
   have lt0:H.next<Hi.next:=n1
   have hd:fab.jr.drop j=l::fab.jr.drop (j+1):=by
    rw [zbu (by omega)];rw [zab (by omega)] at hl;rw [zaX hl]
   rw [aaE];simp only [H1,lu] at e3;by_cases hin:0<=a/\a<l.length
   ·have hf:fnd=some (j,a):=by
     rcases hc with⟨_,hc⟩|⟨hc,_⟩
     ·rw [hc,hd,x8,if_pos hin]
     ·omega
    have g0:Hi.get H.next=.blk 0 99 [zP,zP]:=by rw [s1 _ (by show H.next<H.next+1;omega)];exact aZ rfl
    have hb1:Hi.base<=H.next:=by omega
    have e1:=agF (H:=Hi.new (.blk 0 99 (lu P j))) (r:=H.next) (off:=0) (n:=2) (v:=.agg (lu P j)) (by rw [bJ lt0];exact g0) (by rw [jB];exact hb1) rfl rfl (by decide);have e2:=iH (H:=(Hi.new (.blk 0 99 (lu P j))).put H.next (.blk 0 99 (aO [zP,zP] 0 (lu P j)))) (r:=H.next) (off:=0) (n:=2) (g:=0) (ty:=99) (xs:=aO [zP,zP] 0 (lu P j)) Ij (by simp [lu,aO]);simp only [fA,lu] at e1 e2;have hs:∀x y:AV,aO [zP,zP] 0 [x,y]=[x,y]:=λ_ _=>rfl;have h0:=hin.1;have h2:=hin.2;rw [hf];simp only [hs] at e1 e2;simp only [Nat.reduceAdd,aO,xq_,hq_,h1,a1,a3,lu,sb,h0,h2,e3,e1,e2,x9]
   ·have hw:∃a',IntKind.wrap .i64 (a-l.length)=a'/\nN a'/\((0<=a'/\fnd=x8 (fab.jr.drop (j+1)) (j+1) a')∨((a'<0∨9223372036854775808-1000-1000*((j+1:Nat):Int)<=a')/\fnd=none)):=by
     rcases hc with⟨hc0,hc⟩|⟨hc,hn⟩
     ·refine⟨a-l.length,wrap_i64 (by omega) (by have:=ha.2;omega),⟨by omega,by have:=ha.2;omega⟩,.inl ⟨by omega,?_⟩⟩;rw [hc,hd,x8,if_neg hin]
     ·by_cases hlow:-9223372036854775808<=a-l.length
      ·refine⟨a-l.length,wrap_i64 hlow (by have:=ha.2;omega),⟨hlow,by have:=ha.2;omega⟩,.inr ⟨?_,hn⟩⟩;rcases hc with hc|hc
       ·left;omega
       ·right;omega
      ·refine⟨a-l.length+18446744073709551616,?_,⟨by have:=ha.1;omega,by omega⟩,.inr ⟨.inr (by have:=ha.1;omega),hn⟩⟩;have:a-l.length+18446744073709551616=IntKind.wrap .i64 (a-l.length):=by
        simp [IntKind.wrap,IntKind.signed,IntKind.bits];have:=ha.1;omega
       exact this.symm
    obtain⟨a',w1,w2,w3⟩:=hw;have r1:=ih (j+1) (by omega) (Hi.new (.blk 0 99 (lu P j))) a' (zbH n1) b1 (λr hr=>by rw [bJ (by omega)];exact s1 r hr) w2 w3;simp only [lu] at r1;by_cases h0:0<=a
    ·have h2:¬a<l.length:=by omega
     simp only [Nat.reduceAdd,aO,xq_,hq_,h1,a1,a3,lu,sb,h0,h2,e3,kH,w1,cZ,h6,h7,r1]
    ·simp only [Nat.reduceAdd,aO,xq_,hq_,h1,a1,a3,lu,sb,h0,e3,kH,w1,cZ,h6,h7,r1]
 have r1:=key (2*fab.l.length) 0 (by omega) H0 at_ (zac _) rfl (λ_ _=>rfl) h64 (by
  by_cases h:0<=at_
  ·exact .inl ⟨h,rfl⟩
  ·refine .inr ⟨.inl (by omega),?_⟩;cases hf:x8 fab.jr 0 at_ with
   |none=>exact hf
   |some r=>
    obtain⟨j,k⟩:=r;obtain⟨_,l,_,_,_,h5,_⟩:=uO hf;omega)
 have hz:∀Hz,bV Hz H.next 9 (x9 P fnd)=some (x9 P fnd):=by
  intro Hz;cases hf:fnd with
  |none=>exact vP (λx hx=>by
    simp only [zaj,zaA,or_false] at hx;rcases hx with rfl|rfl|rfl
    ·exact ny (λx hx=>by
      simp only [zaj,zaA,or_false] at hx;rcases hx with rfl|rfl <;> exact iD)
    ·exact iD
    ·exact iD) Hz _
  |some r=>
   obtain⟨j,k⟩:=r;obtain⟨_,l,hl,_⟩:=uO hf;rw [Nat.sub_zero] at hl;have hj:j / 2<fab.l.length:=by
    have:=(zae.1 hl).1;omega
   have l1:=F.lt G (i:=j / 2) (s:=if j % 2=0 then 0 else 2) hj (by split <;> omega);have l2:=F.lt G (i:=j / 2) (s:=if j % 2=0 then 1 else 3) hj (by split <;> omega);refine KP λx hx=>?_;simp only [zaj,zaA,or_false] at hx;rcases hx with rfl|rfl|rfl
   ·refine KN λx hx=>?_;simp only [lu,zaj,zaA,or_false] at hx;rcases hx with rfl|rfl
    ·rw [bV];exact if_pos l1
    ·rw [bV];exact if_pos l2
   ·exact jo
   ·exact jo
 cases hs:X8 cl (.ref f 0 0) (I at_) H.guard with
 |none=>
  exfalso;have e2:=(xs H0).lnS;simp only [H0] at ep e2 r1;have:(X8 cl (.ref f 0 0) (I at_) H.guard).map Prod.fst=some (x9 P fnd):=by
   simp only [xq_,X8,ep,e2];exact r1
  rw [hs] at this;cases this
 |some r=>
  have e2:=(xs H0).lnS;simp only [H0] at ep e2 r1;have:(X8 cl (.ref f 0 0) (I at_) H.guard).map Prod.fst=some (x9 P fnd):=by
   simp only [xq_,X8,ep,e2];exact r1
  rw [hs] at this;simp only [zak,zaa] at this;obtain⟨v,Hz⟩:=r;simp only at this;subst this;exact jD rfl rfl (arz _ _ _ _ hs) (hz Hz)
def Fab.pkt(f:Fab)(at_:Int):Option Pkt:=if at_<0 then none else f.all[at_.toNat]?
def abW(G:Good b H g)(F:iG g f P c fab)(z:fab.l.length<1000)(h0:fab.l.length≠0)(m:∀l∈fab.jr,l.length<1000/\∀p∈l,p.data.length<1000000000)(at_:Int)(q:nN at_):
  cl 47 [.ref f 0 0,I at_] H=some (iM (fab.pkt at_),H):=by
 have y:=G.guard.new (.blk 0 112 [zI,zI,zI,zI,zI,zI,zI,zB,zN]);have e:=abV y F z h0 (λl A=>(m l A).1) at_ q;have d:fab.jr.flatten=fab.all:=DI fab.l;refine dD rfl rfl (aru _ _ _ _) ?_ (Dx _);cases h:x8 fab.jr 0 at_ with
 |none=>
  rw [h] at e;have u:fab.pkt at_=none:=by
   have:=DF h;rw [d] at this;unfold Fab.pkt;split
   ·rfl
   ·rw [zaG V]
  have C:([zP,zP]:List AV).all AV.aP=true:=rfl;simp only [Nat.reduceAdd,aO,xq_,hq_,ai0,e,x9,C,rD,jf,eu,u,iM,fO,za5,zaK,zam]
 |some r=>
  obtain⟨j,k⟩:=r;rw [h] at e;obtain⟨_,l,i,K,L,M,D⟩:=uO h;rw [Nat.sub_zero] at i;have E:=abU F i;have u:fab.pkt at_=l[k.toNat]?:=by
   unfold Fab.pkt;rw [if_neg V,<-d,D]
  have v:=λo=>abn (y.new o) E (m l (zan i)).1 (m l (zan i)).2 k;have hk:¬k<0:=V
  have ha:¬at_<0:=V
  simp only [hk,if_false] at v;rw [u];obtain⟨p,w⟩:∃p,l[k.toNat]?=some p:=⟨_,zab V⟩
  rw [w] at v ⊢;simp only [Nat.reduceAdd,aO,xq_,hq_,ai0,e,x9,lu,ha,v,iM,zav,zaL,zaf]
end
def Own.ref {b:Nat}{H:ah}{x:AV}{m n:Nat}{l:List AV}(o:Own b H x m l)(hm:0<m)(d:l.length=n*m){j:Nat}(y:j<n):
  ∃r gg off,(∀k:IntKind,ix m x (.s (.int k j)) H=some (.ref r gg off,H))/\(∀k,k<m->ld (.ref r gg (off+k)) H=(l[j*m+k]?).map λv=>(v,H))/\lda m (.ref r gg off) H=some (.agg ((l.drop (j*m)).take m),H):=by
 have hs:=o.is hm d;have e:(j+1)*m<=n*m:=zaD _ V;rw [zbv,zbh] at e;rcases o with⟨_,q⟩|⟨r,gg,off,n',g,ex,z,all,rfl,A,C,k4,h,D,E,p⟩
 ·rw [q] at d;simp only [zao] at d;omega
 have u:n'=n:=hs.2.2.1;subst u;have w:n'*m<=g*m:=zaD _ k4;refine⟨r,gg,off+j*m,λk=>?_,λk hk=>?_,?_⟩
 ·have:=hs.ix (k:=k) (i:=(j:Int)) V V;rw [zar] at this;exact this
 ·rw [fJ h,p,zaB,if_pos V,zaF,zb6]
 ·rw [iH h V,p]
  congr 3
  rw [zcp,zbL,zbZ,zbo V]
def Own.name {b:Nat}{H:ah}{m:Nat}{x:AV}{l:List AV}(c:Own b H x m l){r:Nat}(h:iK x=some r):b<=r/\r<H.next:=by
 rcases c with⟨rfl,_⟩|⟨r',g,off,n',d,ex,e,all,rfl,i,j,_⟩
 ·cases h
 ·simp only [iK,zaa] at h;omega
section
variable {b:Nat}{H:ah}{g:bD}{q f:Nat}{N:Nat->Nat->Nat}{m:jO}
structure jO.fine(m:jO):Prop where
 n:m.aB.length<1000
 fab:m.fab.length=m.aB.length
 ajy:∀p∈m.fab,p.rq.length<1000/\p.an.length<1000/\p.rin.length<1000/\p.ain.length<1000
 ops:∀n∈m.aB,n.ops.length<1000/\n.bH.length<1000
end
structure Node.fine(n:Node):Prop where
 ops:n.bQ.ops.length<1000
 bH:n.bQ.bH.length<1000
 aI:n.aI.data.length<1000000000
 aH:n.aH.l.length<1000
 ents:∀e∈n.aH.l,e.data.length<1000000000
 dJ:∀e∈n.home.dJ,e.2.data.length<1000000000
structure jE.fine(n:jE):Prop where
 dJ:n.homes.dJ.length<1000
 owner:n.homes.aT.owner.length<1000000
 wait:n.homes.aT.wait.length<1000000
def Ym {l:List Ent}(h:l.Pairwise λa b=>a.aj<b.aj){a b:Ent}(ha:a∈l)(hb:b∈l)(e:a.aj=b.aj):a=b:=by
 induction h with
 |nil=>cases ha
 |cons i _ j=>
  rcases zaj.1 ha with g|g
  ·rcases zaj.1 hb with d|d
   ·rw [g,d]
   ·have:=i b d;rw [g] at e;omega
  ·rcases zaj.1 hb with d|d
   ·have:=i a g;rw [d] at e;omega
   ·exact j g d
def ap5.find {c:Cfg}{me:Int}{n:Node}{r:jE}(S:ap5 c me n r){e:Ent}(d:e∈r.aH.l):n.aH.find e.aj=some e:=by
 unfold Cache.find;cases b:n.aH.l.find? λx=>decide (x.aj=e.aj) with
 |none=>
  have:=zbP.1 b e (S.perm.mem_iff.2 d);simp at this
 |some x=>
  have g:=zb3 b;have h:=zba b;simp only [decide_eq_true_eq] at g;rw [Ym S.sorted (S.perm.mem_iff.1 h) d g]
def Ry {α β:Type}{f:α->Int}{g:β->Int}:∀{l:List α} {d:List β},l.length=d.length->(∀(i:Nat) a b,l[i]?=some a->d[i]?=some b->f a=g b)->(l.map f).sum=(d.map g).sum
 |[],[],_,_=>rfl
 |a::l,b::d,h,e=>by
  simp only [zax,zbx];rw [e 0 a b rfl rfl,Ry (by simpa using h) λi a b ha hb=>e (i+1) a b (by simpa using ha) (by simpa using hb)]
 |[],_::_,h,_=>by simp at h
 |_::_,[],h,_=>by simp at h
def Sim.left {m:bW}{r:jO}(S:Sim m r):r.left=m.left:=by
 unfold jO.left bW.left;refine Ry S.len λi a b ha hb=>?_;have:=S.bF i b a hb ha;simp only [Proc.left,this.ops,this.bH]
def ajH {f:Fab}{i:Nat}{p:Port}(h:f.l[i]?=some p):f.port i=p:=by
 unfold Fab.port;rw [zar,zas,h];rfl
def Yn {f:Fab}{i:Nat}{p:Port}(h:f.l[i]?=some p):f.waiting i true=p.rin.length/\f.waiting i false=p.ain.length:=by
 have hi:=(zae.1 h).1;have:f.is i=true:=by simp only [Fab.is,zah,decide_eq_true_eq];omega
 unfold Fab.waiting;simp only [this,if_true,ajH h,Port.qo];exact⟨trivial,O⟩
def Sim.all {m:bW}{r:jO}(S:Sim m r):r.all=m.fab.all:=by
 unfold jO.all Fab.all;rw [S.fab]
def Sim.quiet {m:bW}{r:jO}(S:Sim m r)(k:m.fab.l.length=m.aB.length):r.quiet=m.quiet:=by
 unfold jO.quiet bW.quiet;have hb:∀i,i<m.aB.length->r.busy i=m.busy i:=by
  intro i hi;obtain⟨n,d⟩:∃n,m.aB[i]?=some n:=⟨_,zab hi⟩
  obtain⟨rn,e⟩:∃n,r.aB[i]?=some n:=⟨_,zab (by rw [S.len];exact hi)⟩
  obtain⟨p,g⟩:∃p,m.fab.l[i]?=some p:=⟨_,zab V⟩
  have b:r.fab[i]?=some p:=by rw [S.fab,g]
  have N:=S.bF i n rn d e;obtain⟨w1,j⟩:=Yn g;simp only [jO.busy,bW.busy,d,e,b,w1,j,N.eG,N.has];cases n.bQ.eG <;> cases decide (n.aI.step=0) <;> simp <;> rw [Bool.eq_iff_iff] <;> simp <;> omega
 rw [S.all,S.len];have:(List.range m.aB.length).all (λi=>!r.busy i)=(List.range m.aB.length).all λi=>!m.busy i:=by
  rw [Bool.eq_iff_iff,zaZ,zaZ];constructor
  ·intro h i hi;rw [<-hb i (zaW.1 hi)];exact h i hi
  ·intro h i hi;rw [hb i (zaW.1 hi)];exact h i hi
 rw [this,Bool.and_comm];rfl
def abX(H:ah)(aj fwd back:Int)(dn:Bool){l:List Int}(b:l.length<1000000000){x:AV}(d:mD H x l):cl 181 [I aj,I fwd,I back,B dn,x] H=some (.agg (Ent.mk fwd back aj 0 dn l).av,H):=by
 refine dD rfl rfl (aoD _ _ _ _ _ _ _) ?_ (ny (OT _));have e:=λo=>Rw (H.guard.new o) b (d.guard.new o);simp only [Nat.reduceAdd,Nat.reduceLeDiff,aO,xq_,hq_,ahI,e,alv,af9,jf,fK,af7,af8,Ent.av]
def asC(H:ah)(e:Ent)(w:Int):cl 161 [.agg e.av,I w] H=some (B (decide (0<=w/\w<e.data.length)),H.new (.blk 0 166 e.av)):=by
 refine bC rfl rfl (ahx _ _ _ _ ?_);have d:=λH=>(kY H e.data).lnS;by_cases b:0<=w
 ·simp only [Nat.reduceLT,xq_,hq_,QY,aG,Ent.av,b,d]
 ·simp only [Nat.reduceLT,xq_,hq_,QY,aG,Ent.av,b,false_and]
def ajI(H:ah)(e:Ent)(w:Int):cl 119 [.agg e.av,I w] H=some (I (e.word w),H):=by
 refine dD rfl rfl (anx _ _ _ _) ?_ iD;have d:=λH=>asC H e w;by_cases b:0<=w/\w<e.data.length
 ·have h:=λH=>(kY H e.data).ix (k:=.i64) (i:=w) b.1 b.2;have g:=λH=>(kY H e.data).ld (i:=w.toNat) V;have j:(e.data.map I)[w.toNat]?=some (I (e.word w)):=by
   unfold Ent.word;rw [if_pos b,zaH,zab V,zas,zab V];rfl
  rw [j] at g;have m:e.av[5]?=some (dat e.data):=rfl;simp only [Nat.reduceLT,xq_,hq_,aaW,aG,d,b,h,g,m,zaf]
 ·have:e.word w=0:=by unfold Ent.word;rw [if_neg b]
  rw [this];simp only [Nat.reduceLT,xq_,hq_,aaW,aG,d,b,zam]
section
variable {b:Nat}{H:ah}{g:bD}{q:Nat}
def WV(G:Good b H g){c:Cache}(h:g q=some (dG c))(hl:c.l.length<1000000)(hs0:1<=c.sets)(aj:Int):cl 135 [.ref q 0 0,I aj] H=some (vsl 6 Ent.av (c.pq aj),H):=by
 obtain⟨x,hx,cx⟩:=G.guard.seq h (i:=0) rfl;have hs:=cx.is (n:=c.l.length) (by decide) (dM dW c.l);have e2:=hs.lnS;let p:Ent->Bool:=λe=>decide (0<=aj) && decide (e.aj.tmod c.sets=aj.tmod c.sets)
 let F:Nat->List Ent:=λj=>(c.l.take j).filter p
 have hF:∀j,(F j).length<=j:=λj=>zaz (zcv _ _) (by rw [zau];omega);have key:∀k j,j+k=c.l.length->∀Hi t,Step H.next H.guard Hi->Own H.next Hi t 6 ((F j).flatMap Ent.av)->(F j=[]->t=zN)->
   ∃t' H',FB cl [.ref q 0 0,I aj,t,x,I c.l.length,I j] Hi=some (t',H')/\Own H.next H' t' 6 ((c.pq aj).flatMap Ent.av)/\(c.pq aj=[]->t'=zN):=by
  intro k
  induction k with
  |zero=>
   intro j hj Hi t s o z;have h1:¬(j:Int)<c.l.length:=by omega
   have:F j=c.pq aj:=by
    simp only [F,Cache.pq,p];rw [zaw (by omega)]
   rw [this] at o z;refine⟨t,Hi,?_,o,z⟩;rw [V8];simp only [xq_,h1]
  |succ k ih=>
   intro j hj Hi t s o z;have h1:(j:Int)<c.l.length:=by omega
   have h6:(j:Int)+1=((j+1:Nat):Int):=by omega
   have h7:=wrap_i64 (a:=((j+1:Nat):Int)) (by omega) (by omega);obtain⟨e,he⟩:∃e,c.l[j]?=some e:=⟨_,zab (by omega)⟩
   have hsi:aN Hi x 6 c.l.length (c.l.flatMap Ent.av):=hs.iZ s.next λr _ hr=>s.low r hr
   have s1:=hsi.ix (k:=.i64) (i:=(j:Int)) (by omega) h1;rw [zar] at s1;have s2:=mW dW hsi he;have bi:Hi.base=H.next:=s.base.trans ap3
   have ni:H.next<=Hi.next:=s.next
   have hbase:Hi.base<=Hi.next:=by omega
   have Gi:Good b Hi g:=G.guard.ext s.next s.low
   have l1:=(Gi.new (.blk 0 166 e.av)).load h (i:=1) (x:=I c.sets) rfl;have r0:c.sets≠0:=by omega
   have hFs:F (j+1)=F j++if p e=true then [e] else []:=by
    simp only [F,zcz,he,zcT,zcq]
    congr 1
    cases hp:p e <;> simp [hp]
   rw [V8];by_cases hc:0<=aj/\e.aj.tmod c.sets=aj.tmod c.sets
   ·have hp:p e=true:=by simp only [p,hc.1,hc.2,decide_true,zcj]
    rw [hp,if_pos rfl] at hFs;have hm:=hF j;obtain⟨t1,H2,a1,a2,a3⟩:=((o.new (.blk 0 166 e.av)).new (.blk 0 166 e.av)).step (e:=166) (by_:=64) (n:=(F j).length) (by simp only [eX];omega) (by simp only [jB];omega) (by decide) (dM dW _) (kN (ex:=true) (n:=1) (m:=6) (l:=e.av) rfl) (lN e) (by unfold most;omega) (by unfold most;omega);have a2':Own H.next H2 t1 6 ((F (j+1)).flatMap Ent.av):=by rw [hFs,zbG];simpa using a2
    obtain⟨t',H',r1,r2⟩:=ih (j+1) (by omega) H2 t1 (((s.trans (Step.new _ ni)).trans (Step.new _ (by simp only [eX];omega))).trans a3) a2' (λhz=>by rw [hFs] at hz;simp at hz);refine⟨t',H',?_,r2⟩;simp only [eX] at a1;have lf:e.av[2]?=some (I e.aj):=rfl;simp only [Nat.reduceAdd,Nat.reduceLeDiff,aO,xq_,hq_,h1,s1,s2,hbase,hc,lf,l1,rC r0,BD,afW,zbh,kZ (m:=6) (z:=[zI,zI,zI,zI,zB,zN]) (v:=.agg e.av) rfl rfl (lN e),a1,cZ,h6,h7];exact r1
   ·have hp:p e=false:=by
     simp only [p];by_cases h0:0<=aj
     ·have:¬e.aj.tmod c.sets=aj.tmod c.sets:=λh=>hc ⟨h0,h⟩;simp [this]
     ·simp [h0]
    rw [hp,if_neg (by simp),zbm] at hFs;obtain⟨t',H',r1,r2⟩:=ih (j+1) (by omega) (Hi.new (.blk 0 166 e.av)) t (s.trans (Step.new _ ni)) (by rw [hFs];exact o.new _) (by rw [hFs];exact z);refine⟨t',H',?_,r2⟩;have lf:e.av[2]?=some (I e.aj):=rfl;by_cases h0:0<=aj
    ·have hne:¬e.aj.tmod c.sets=aj.tmod c.sets:=λh=>hc ⟨h0,h⟩;simp only [Nat.reduceAdd,aO,xq_,hq_,h1,s1,s2,hbase,h0,hne,lf,l1,rC r0,BD,cZ,h6,h7,r1]
    ·simp only [Nat.reduceAdd,aO,xq_,hq_,h1,s1,s2,hbase,h0,BD,cZ,h6,h7,r1]
 obtain⟨t',H',r1,r2,r3⟩:=key c.l.length 0 (by omega) H.guard zN (Step.refl _ _) (.inl ⟨rfl,rfl⟩) (λ_=>rfl);refine jD rfl rfl (anT _ _ _ _ (r:=(t',H')) ?_) ?_
 ·simp only [xq_,ahc,hx,e2];exact r1
 ·by_cases hz:c.pq aj=[]
  ·rw [r3 hz,hz,gI];exact jo
  ·rw [Fg hz];refine DC r2 (by decide) (dM dW _) (λy hy=>?_) (λe=>hz (zat e));obtain⟨a,_,ha⟩:=za0.1 hy;exact OT (d:=6) a y ha _ _
def Rz(G:Good b H g){c:Cache}(h:g q=some (dG c))(m:c.l.length<1000000)(j:1<=c.sets)(aj:Int):cl 90 [.ref q 0 0,I aj] H=some (B (c.full aj),H):=by
 refine dD rfl rfl (asb _ _ _ _) ?_ iD;have d:=I9 G.guard h m aj;have o:=WV G.guard.guard h m j aj;have p:=(Ic dW H.guard (c.pq aj)).lnS;have u:=G.guard.load h (i:=2) (x:=I c.ways) rfl;have e:(c.find aj).isNone=(c.at_ aj).isNone:=by
  rw [show c.find aj=(c.at_ aj).bind λi=>c.l[i]? from(sW c.l).symm];cases ha:c.at_ aj with
  |none=>rfl
  |some i=>
   have hi:i<c.l.length:=zbE.1 ha |>.1
   simp [zab hi]
 cases ha:c.at_ aj with
 |none=>
  rw [ha] at d e;have k:FY (none:Option Nat)=-1:=rfl;rw [k] at d;simp only [Int.reduceLT,Int.reduceNeg,xq_,aji,d,o,p,u,Cache.full,e,zcP,zaN]
 |some i=>
  rw [ha] at d e;have k:FY (some i)=(i:Int):=rfl;rw [k] at d;have v:¬(i:Int)<0:=V
  simp only [xq_,aji,d,v,Cache.full,e,Option.isNone_some,zaP]
end
def aeU(H:ah)(a e:Ent)(h:nN (a.used-e.used)):cl 137 [.agg a.av,.agg e.av] H=some (I (a.used-e.used),H):=by
 refine dD rfl rfl (anV _ _ _ _) ?_ iD;have w:=wrap_i64 h.1 h.2;simp only [Nat.reduceLT,xq_,hq_,ahf,aG,Ent.av,kH,w]
abbrev ahU(m:Ent)(l:List Ent):Ent:=l.foldl (λm x=>if x.used<m.used then x else m) m
def Yo(H:ah)(hb:H.base<=H.next){a:Ent}{l:List Ent}(K:l.length<1000000)(y:∀e∈a::l,0<=e.used/\e.used<1000000000):
  ∃H',cl 136 [vsl 6 Ent.av (a::l),.fn (.func 137) [] []] H=some (.agg (ahU a l).av,H'):=by
 obtain⟨L,u⟩:∃L,L=a::l:=⟨_,rfl⟩
 have hs:=λH=>Ic dW H L;have D:L.length=l.length+1:=by rw [u];rfl
 rw [<-u] at y ⊢;let b:Ent->ah:=λm=>(H.new (.blk 0 166 [zI,zI,zI,zI,zB,zN])).new (.blk 0 166 m.av)
 have key:∀k j,j+k=L.length->∀m,m∈L->
   ∃H',FC cl [vsl 6 Ent.av L,.fn (.func 137) [] [],.ref H.next 0 0,.ref (H.next+1) 0 0,I j] (b m)=some (.agg (ahU m (L.drop j)).av,H'):=by
  intro k
  induction k with
  |zero=>
   intro j E m hm;have o:¬(j:Int)<L.length:=V
   have d:=(hs (b m)).lnS;have hd:L.drop j=[]:=zaV V;refine⟨(H.new (.blk 0 166 m.av)).new (.blk 0 166 m.av),?_⟩;rw [V9,hd];simp only [b] at d ⊢;simp only [Nat.reduceAdd,aO,xq_,hq_,d,o,hb,ahU,List.foldl_nil]
  |succ k z=>
   intro j E m hm;have o:(j:Int)<L.length:=V
   have A:(j:Int)+1=((j+1:Nat):Int):=V
   have C:=wrap_i64 (a:=((j+1:Nat):Int)) V V;obtain⟨e,v⟩:∃e,L[j]?=some e:=⟨_,zab V⟩
   have d:=(hs (b m)).lnS;have h:=(hs (b m)).ix (k:=.i64) (i:=(j:Int)) V o;rw [zar] at h;have p:=mW dW (hs (b m)) v;have M:=y _ (zan v);have Q:=y _ hm;have w:tJ Tryz.prog cl (.fn (.func 137) [] []) [.agg e.av,.agg m.av] (b m)=some (I (e.used-m.used),b m):=by
    rw [uF J];exact aeU _ e m ⟨V,V⟩
   have hd:L.drop j=e::L.drop (j+1):=by
    rw [zbu V];rw [zab V] at v;rw [zaX v]
   rw [V9,hd];by_cases hc:e.used<m.used
   ·have q:e.used-m.used<0:=V
    obtain⟨H',g⟩:=z (j+1) V e (zan v);refine⟨H',?_⟩;simp only [b] at d h p w g ⊢;simp only [Nat.reduceAdd,aO,xq_,hq_,d,o,h,p,w,q,hb,FD,cZ,A,C,ahU,zbT,hc];exact g
   ·have q:¬e.used-m.used<0:=V
    obtain⟨H',g⟩:=z (j+1) V m hm;refine⟨H',?_⟩;simp only [b] at d h p w g ⊢;simp only [Nat.reduceAdd,aO,xq_,hq_,d,o,h,p,w,q,hb,FD,cZ,A,C,ahU,zbT,hc];exact g
 obtain⟨H',g⟩:=key l.length 1 V a (by rw [u];simp);refine⟨H',bC rfl rfl (anU _ _ _ _ ?_)⟩;let H1:=H.new (.blk 0 166 [zI,zI,zI,zI,zB,zN]);have d:=(hs H1).lnS;have o:¬(L.length:Int)<1:=V
 have h:=(hs H1).ix (k:=.i64) (i:=(0:Int)) V V;have p:=mW dW (hs H1) (i:=0) (a:=a) (by rw [u];rfl);rw [show((0:Int).toNat)=0 from rfl] at h;have F:L.drop 1=l:=by rw [u];rfl
 rw [F] at g;simp only [b] at g;simp only [H1] at d h p;have G:((1:Nat):Int)=1:=rfl;rw [G] at g;simp only [Nat.reduceAdd,aO,xq_,hq_,ahe,Ox,d,o,h,p,hb];exact g
section
variable {b:Nat}{H:ah}{g:bD}{q:Nat}
def ajJ(c:Cache)(aj:Int):∀e∈c.pq aj,e∈c.l:=λe b=>(zbp.1 b).1
def UL(G:Good b H g){c:Cache}(h:g q=some (dG c))(p:c.l.length<1000000)(m:1<=c.sets)(u:∀e∈c.l,0<=e.used/\e.used<1000000000)(aj:Int):
  cl 91 [.ref q 0 0,I aj] H=some (.tup [I ((c.oJ aj).getD 0),B (c.oJ aj).isSome],H):=by
 refine dD rfl rfl (asc _ _ _ _) ?_ (vP λx o=>by
  simp only [zaj,zaA,or_false] at o;rcases o with rfl|rfl <;> exact iD)
 have j:=WV G.guard h p m aj;have k:=(Ic dW H.guard (c.pq aj)).lnS;have d:(c.pq aj).length<=c.l.length:=zcv _ _;cases i:c.pq aj with
 |nil=>
  rw [i] at j k;have hv:c.oJ aj=none:=by simp [Cache.oJ,i,oq]
  simp only [xq_,ajj,j,k,hv,zao,Int.ofNat_zero,za5,zaK]
 |cons a l=>
  rw [i] at j k d;have hv:c.oJ aj=some (ahU a l).aj:=by simp [Cache.oJ,i,oq]
  obtain⟨H',v⟩:=Yo H.guard (zac _) (a:=a) (l:=l) (by simp only [zal] at d;omega) (λe w=>u e (ajJ c aj e (by rw [i];exact w)));have y:¬((a::l).length:Int)=0:=by simp only [zal];omega
  have lf:(ahU a l).av[2]?=some (I (ahU a l).aj):=rfl;simp only [xq_,ajj,j,k,y,v,hv,lf,zav,zaL]
end
def Ls {α:Type}{enc:α->List AV}{m:Nat}(b:∀a,(enc a).length=m){a':α}{o:Nat}{vs:List AV}(e:o+vs.length<=m):∀(l:List α) (i:Nat) (a:α),l[i]?=some a->aO (enc a) o vs=enc a'->aO (l.flatMap enc) (i*m+o) vs=(l.set i a').flatMap enc
 |[],i,a,h,_=>by simp at h
 |x::l,0,a,h,hv=>by
  simp only [zaT,zaa] at h;subst h;have d:=b x;rw [zb9,zaC,zaC,<-hv];unfold aO;rw [zbD,za6,zbW V,List.drop_append_of_le_length V];simp only [zbc]
 |x::l,i+1,a,h,hv=>by
  have d:=b x;have g:=Ls b e l i a (by simpa using h) hv;rw [zca,zaC,zaC,<-g];unfold aO;have j:(i+1)*m+o=(enc x).length+(i*m+o):=by rw [d,zbv,zbh];omega
  have k:(i+1)*m+o+vs.length=(enc x).length+(i*m+o+vs.length):=by rw [d,zbv,zbh];omega
  rw [k,j,List.take_length_add_append,List.drop_length_add_append,zbc]
section
variable {b:Nat}{H:ah}{g:bD}{q:Nat}
def RD(G:Good b H g)(hb:H.base<=b){c:Cache}(h:g q=some (dG c)){x:AV}(k:Cur b H q 0 x 6 (c.l.flatMap Ent.av)){i:Nat}{e e':Ent}(hi:c.l[i]?=some e):
  ∃r gg off,eH x i=.ref r gg off/\∀(w o:Nat) (v:AV),v.cells.length=w->v.cells.all AV.aP=true->o+w<=6->aO e.av o v.cells=e'.av->
   ∃H',st w (.ref r gg (off+o)) v H=some (bg,H')/\Good b H' (upd g q (dG { c with l:=c.l.set i e' }))/\Step b H H'/\H'.next=H.next:=by
 obtain⟨r,gg,off,m,p⟩:=G.elem hb h (i:=0) rfl Z (dM dW c.l) k (j:=i) (zae.1 hi).1;refine⟨r,gg,off,m,λw o v u y z A=>?_⟩;obtain⟨H',C,d,D⟩:=p w o v u y z;refine⟨H',C,?_,D⟩;have:=Ls dW (o:=o) (vs:=v.cells) V c.l i e hi A;rw [this] at d;exact d
def Yp(G:Good b H g)(hb:H.base<=b){c:Cache}(h:g q=some (dG c))(A:c.l.length<1000000)(hk:0<=c.dh/\c.dh<1000000000)(aj:Int):
  ∃H',cl 89 [.ref q 0 0,I aj] H=some (B (c.at_ aj).isSome,H')/\Good b H' (upd g q (dG (c.touch aj)))/\Step b H H':=by
 refine kQ rfl rfl (ar9 _ _ _ _) ?_;have d:=I9 G h A aj;cases ha:c.at_ aj with
 |none=>
  rw [ha] at d;have j:FY (none:Option Nat)=-1:=rfl;rw [j] at d;refine⟨H,?_,by rw [show c.touch aj=c by simp [Cache.touch,ha],fP h];exact G,Step.refl _ _⟩;simp only [Int.reduceLT,Int.reduceNeg,xq_,ajh,d,zaK]
 |some i=>
  rw [ha] at d;have j:FY (some i)=(i:Int):=rfl;rw [j] at d;have C:¬(i:Int)<0:=V
  have hi:i<c.l.length:=zbE.1 ha |>.1
  obtain⟨e,u⟩:∃e,c.l[i]?=some e:=⟨_,zab hi⟩
  have D:=G.load h (i:=3) (x:=I c.dh) rfl;have w1:=wrap_i64 (a:=c.dh+1) V V;obtain⟨H1,E,m,w,W⟩:=G.store hb h (i:=3) (v:=I (c.dh+1)) (by simp [dG]) dO;have o:upd g q ((dG c).set 3 (.av (I (c.dh+1)))) q=some (dG { c with dh:=c.dh+1 }):=aQ;have F:=m.load o (i:=3) (x:=I (c.dh+1)) rfl;obtain⟨x,K,y⟩:=m.seq o (i:=0) rfl;have hs:=y.is (n:=c.l.length) Z (dM dW c.l);have p:=hs.ix (k:=.i64) (i:=(i:Int)) V V;rw [zar] at p;obtain⟨r,gg,off,L,M⟩:=RD m (by rw [w.base];exact hb) o y (e':={ e with used:=c.dh+1 }) u;obtain⟨Q,R,z,T,X⟩:=M 1 3 (I (c.dh+1)) rfl rfl Z rfl;rw [L] at p;refine⟨Q,?_,?_,w.trans T⟩
  ·simp only [xq_,ajh,d,C,D,cZ,w1,E,K,F,p,R,zaL]
  ·rw [qw] at z;have:c.touch aj={ c with l:=c.l.set i { e with used:=c.dh+1 },dh:=c.dh+1 }:=by
    simp only [Cache.touch,ha];rw [zas,u];rfl
   rw [this];exact z
def ajK {i n:Nat}{x:AV}{l:List AV}(c:Cur b H q i x 6 l)(hb:H.base<=b)(g:l.length=n*6)(k:n<1000000000){j:Nat}(m:j<n):
  ∃h H',cl 190 [x,I j,I (j+1)] H=some (h,H')/\Fit H H' x h 6 (l.take (j*6)++l.drop ((j+1)*6))/\H'.next=H.next/\H'.base=H.base/\∀r,iK x≠some r->H'.get r=H.get r:=by
 obtain⟨y,K,L,o,H1,M,p,u,v,w,A,C,D,E,f,n1,F,k1⟩:=VQ c hb Z g k m (z:=[zI,zI,zI,zI,zB,zN]) rfl rfl (e:=166) (by_:=64) Z;have G:=(c.is Z g).lnS;have d:((j:Int)=j+1)=False:=eq_false V;refine⟨o,p,bC rfl rfl (aoK _ _ _ _ _ ?_),f,n1,F,k1⟩;simp only [xq_,ahL,G,u,v,w,A,C,D,E,d]
def abY(G:Good b H g)(hb:H.base<=b){c:Cache}(h:g q=some (dG c))(D:c.l.length<1000000){j:Nat}(u:j<c.l.length):
  ∃x e H1 d,ld (.ref q 0 0) H=some (x,H)/\cl 190 [x,I j,I (j+1)] H=some (e,H1)/\st 1 (.ref q 0 0) e H1=some (bg,d)/\Good b d (upd g q (dG { c with l:=c.l.eraseIdx j }))/\Step b H d:=by
 obtain⟨x,v,k⟩:=G.seq h (i:=0) rfl;obtain⟨e,H1,w,o,E,y,p⟩:=ajK k hb (dM dW c.l) V u;rw [Ld dW] at o;obtain⟨d,z,A,C,F⟩:=G.seat h (i:=0) rfl k V V  (λr _ m=>p r m) o;exact⟨x,e,H1,d,v,w,z,A,Step.trans ⟨y,V,λr m=>p r (k.low m)⟩ C⟩
def Ja(G:Good b H g)(hb:H.base<=b){c:Cache}(h:g q=some (dG c))(hl:c.l.length<1000000)(hd:∀e∈c.l,e.data.length<1000000000)(aj:Int):
  ∃H',cl 174 [.ref q 0 0,I aj] H=some (ql (c.find aj),H')/\Good b H' (upd g q (dG (c.drop aj)))/\Step b H H':=by
 have hq:=G.lt h;have G1:=G.newObj (ty:=166) (xs:=[zI,zI,zI,zI,zB,zN]) rfl;have h1:upd g H.next ([zI,zI,zI,zI,zB,zN].map .av) q=some (dG c):=by rw [bn (by omega)];exact h
 have e1:=rO G1 h1 hl hd aj;have hb0:H.base<=H.next:=zaz hb G.1
 refine kQ rfl rfl (aox _ _ _ _) ?_;have hf:c.find aj=(c.at_ aj).bind λi=>c.l[i]?:=(sW c.l).symm;cases ha:c.at_ aj with
 |none=>
  rw [ha] at hf;have hf:c.find aj=none:=hf;rw [hf] at e1;simp only [ql,za5,zaK,vX] at e1;have hdr:c.drop aj=c:=by simp [Cache.drop,ha]
  simp only [Nat.reduceAdd,aO,xq_,hq_,zaa,zad,exists_eq_left',aa9,e1,FT,ql,hf,za5,zaK,vX,hb0];rw [hdr,fP h];exact⟨(G.new _).new _,(Step.new _ G.1).trans (Step.new _ (G.new _).1)⟩
 |some i=>
  have hi:i<c.l.length:=zbE.1 ha |>.1
  obtain⟨e,he⟩:∃e,c.l[i]?=some e:=⟨_,zab hi⟩
  rw [ha] at hf;have hf:c.find aj=some e:=by rw [hf];exact he
  rw [hf] at e1;simp only [ql,zav,zaL] at e1;have G2:=G1.newObj (ty:=166) (xs:=e.av) (lN _);have h2:upd (upd g H.next ([zI,zI,zI,zI,zB,zN].map .av)) (H.next+1) (e.av.map .av) q=some (dG c):=by rw [bn (by omega)];exact h1
  have e2:=I9 G2 h2 hl aj;have hn:FY (some i)=(i:Int):=rfl;rw [ha,hn] at e2;obtain⟨x,x',K1,K2,s1,s2,s3,s4,s5⟩:=abY G2 (by rw [jB,jB];omega) h2 hl hi;have G3:Good b K2 _:=s4;let gz:=upd (upd (upd g H.next ([zI,zI,zI,zI,zB,zN].map .av)) (H.next+1) (e.av.map .av)) q (dG { c with l:=c.l.eraseIdx i });have q2:gz (H.next+1)=some (e.av.map .av):=by simp only [gz];rw [bn (by omega),aQ]
  have q1:gz H.next=some ([zI,zI,zI,zI,zB,zN].map .av):=by simp only [gz];rw [bn (by omega),bn (by omega),aQ]
  have l2:=G3.loads q2 (i:=0) (n:=6) (xs:=e.av) rfl rfl (by decide);obtain⟨K3,t1,t2,t3,t4⟩:=G3.stores (by rw [s5.base,jB,jB];exact hb) q1 (i:=0) (n:=6) (vs:=e.av) (by decide) rfl (lN _);have l3:=t2.loads aQ (i:=0) (n:=6) (xs:=e.av) rfl rfl (by decide);have w1:=wrap_i64 (a:=(i:Int)+1) (by omega) (by omega);have hdr:c.drop aj={ c with l:=c.l.eraseIdx i }:=by simp [Cache.drop,ha]
  simp only [Nat.reduceAdd,aO,xq_,hq_,zaa,zad,exists_eq_left',aa9,e1,FT,ql,hf,zav,zaL,hb0,e2,cZ,w1,s1,s2,s3,l2,t1,l3,hdr];have n1:g H.next=none:=G.isNone (zac _)
  have n2:g (H.next+1)=none:=G.isNone (by omega);exact⟨t2.sub (((((sK.refl g).more n1 _).more n2 _).both q _).more (AQ n1 (by omega)) _),(((Step.new _ G.1).trans (Step.new _ (G.new _).1)).trans s5).trans t3⟩
end
section
variable {b:Nat}{H:ah}{g:bD}{q:Nat}
def WW(G:Good b H g)(hb:H.base<=b){c:Cache}(h:g q=some (dG c))(hl:c.l.length<1000000)(hs0:1<=c.sets)(hk:0<=c.dh/\c.dh<1000000000)(e:Ent){x:AV}(hel:e.data.length<1000000000)(hx:mD H x e.data):
  ∃H',cl 121 [.ref q 0 0,.agg (e.avx x)] H=some (I (c.put e).2,H')/\Good b H' (upd g q (dG (c.put e).1))/\Step b H H':=by
 have hq:=G.lt h;have hb0:H.base<=H.next:=zaz hb G.1
 have ax:=aeR (p:=e) hx.one;have e0:=WU (H.new (.blk 0 166 (e.avx x))) e hel (hx.new _);have ll:(e.avx x).length=6:=rfl;have lt:(e.avx x).take 6=e.avx x:=rfl;have l6:(e.avx x).drop 6=[]:=rfl;let H1:=H.new (.blk 0 166 e.av);have G1:Good b H1 g:=G.new _;have lf:e.av[2]?=some (I e.aj):=rfl;refine kQ rfl rfl (anA _ _ _ _) ?_;by_cases hneg:e.aj<0
 ·have hp:c.put e=(c,1):=by simp only [Cache.put];rw [if_pos hneg]
  rw [hp];refine⟨H1,?_,by rw [fP h];exact G1,Step.new _ G.1⟩;simp only [Nat.reduceLT,aO,xq_,hq_,QW,aG ax,ll,lt,l6,e0,hb0,lf,hneg];rfl
 ·have e1:=I9 G1 h hl e.aj;cases ha:c.at_ e.aj with
  |some i=>
   rw [ha] at e1;have hn:FY (some i)=(i:Int):=rfl;rw [hn] at e1;have h0:(0:Int)<=i:=by omega
   have hi:i<c.l.length:=zbE.1 ha |>.1
   obtain⟨o,ho⟩:∃o,c.l[i]?=some o:=⟨_,zab hi⟩
   obtain⟨y,hy0,cy⟩:=G.seq h (i:=0) rfl;have c1:=cy.new (.blk 0 166 e.av);have y1:=c1.load;have hs:=c1.is (n:=c.l.length) (by decide) (dM dW c.l);have e3:=hs.ix (k:=.i64) (i:=(i:Int)) (by omega) (by omega);rw [zar] at e3;have e4:=hs.alL (i:=i) (o:=3) hi (by decide);rw [I4 dW c.l i o ho (by decide)] at e4;let e':Ent:={ e with used:=o.used }
   let H2:=H.new (.blk 0 166 e'.av);have G2:Good b H2 g:=G.new _;have c2:=cy.new (.blk 0 166 e'.av);have y2:=c2.load;have hs2:=c2.is (n:=c.l.length) (by decide) (dM dW c.l);have e5:=hs2.ix (k:=.i64) (i:=(i:Int)) (by omega) (by omega);rw [zar] at e5;obtain⟨r,gg,off,p1,p2⟩:=RD G2 hb h c2 (e':=e') ho;obtain⟨H3,t1,t2,t3,t4⟩:=p2 6 0 (.agg e'.av) rfl (lN e') (by decide) (by simp only [fA];rfl);rw [p1] at e3 e4 e5;rw [sH] at e4;have ou:o.av[3]?=some (I o.used):=rfl;simp only [za7,ou,zak] at e4;rw [zbr] at t1;have hp:c.put e=({ c with l:=c.l.set i e' },0):=by
    simp only [Cache.put];rw [if_neg hneg,ha];simp only [e',zas,ho,zav]
   rw [hp];refine⟨H3,?_,t2,(Step.new _ G.1).trans t3⟩;simp only [H1,Ent.av] at e1 y1 e3 e4;simp only [H2,e',Ent.av] at y2 e5 t1;simp only [Nat.reduceLT,Nat.reduceAdd,aO,xq_,hq_,QW,aG ax,ll,lt,l6,e0,hb0,hneg,e1,h0,y1,e3,e4,Ent.av,y2,e5,t1]
  |none=>
   rw [ha] at e1;have hn:FY (none:Option Nat)=-1:=rfl;rw [hn] at e1;have e2:=Rz G1 h hl hs0 e.aj;simp only [H1] at e1 e2;cases hf:c.full e.aj with
   |true=>
    have hp:c.put e=(c,5):=by simp only [Cache.put];rw [if_neg hneg,ha];simp only [hf,if_true]
    rw [hp];rw [hf] at e2;refine⟨H1,?_,by rw [fP h];exact G1,Step.new _ G.1⟩;simp only [Nat.reduceLT,Int.reduceLE,Int.reduceNeg,aO,xq_,hq_,QW,aG ax,ll,lt,l6,e0,hb0,lf,hneg,e1,e2];rfl
   |false=>
    rw [hf] at e2;let e':Ent:={ e with used:=c.dh+1 }
    have hp:c.put e=({ c with l:=c.l++[e'],dh:=c.dh+1 },0):=by simp only [Cache.put];rw [if_neg hneg,ha];simp only [hf,zai,if_false];rfl
    rw [hp];have F1:=G.newObj (ty:=166) (xs:=e.av) (lN e);have f1:upd g H.next (e.av.map .av) q=some (dG c):=by rw [bn (by omega)];exact h
    have l1:=F1.load f1 (i:=3) (x:=I c.dh) rfl;have w1:=wrap_i64 (a:=c.dh+1) (by omega) (by omega);obtain⟨H2,s1,F2,s3,s4⟩:=F1.store hb f1 (i:=3) (v:=I (c.dh+1)) (by simp [dG]) dO;have f2:upd (upd g H.next (e.av.map .av)) q ((dG c).set 3 (.av (I (c.dh+1)))) q=some (dG { c with dh:=c.dh+1 }):=aQ;have l2:=F2.load f2 (i:=3) (x:=I (c.dh+1)) rfl;have f3:upd (upd g H.next (e.av.map .av)) q ((dG c).set 3 (.av (I (c.dh+1)))) H.next=some (e.av.map .av):=by rw [bn (by omega),aQ]
    obtain⟨H3,t1,F3,t3,t4⟩:=F2.store (by rw [s3.base];exact hb) f3 (i:=3) (v:=I (c.dh+1)) (by simp [Ent.av]) dO;have f4:upd (upd (upd g H.next (e.av.map .av)) q ((dG c).set 3 (.av (I (c.dh+1))))) H.next ((e.av.map .av).set 3 (.av (I (c.dh+1)))) q=some (dG { c with dh:=c.dh+1 }):=by rw [bn (by omega)];exact f2
    have l4:=F3.loads aQ (i:=0) (n:=6) (xs:=e'.av) rfl rfl (by decide);obtain⟨y,hy,cy⟩:=F3.seq f4 (i:=0) rfl;obtain⟨x',K1,K2,a1,a2,a3,a4⟩:=(F3.new (.blk 0 166 e'.av)).append (e:=166) (by_:=64) (n:=c.l.length) (by rw [jB,t3.base,s3.base];exact hb) f4 (i:=0) rfl (by decide) (dM dW c.l) (cy.new _) (kN (ex:=true) (n:=1) (m:=6) (l:=e'.av) rfl) (lN e') (by unfold most;omega) (by unfold most;omega);refine⟨K2,?_,?_,(((Step.new _ G.1).trans s3).trans t3).trans ((Step.new _ F3.1).trans a4)⟩
    ·simp only [Nat.reduceLT,Int.reduceLE,Int.reduceNeg,Nat.reduceLeDiff,aO,xq_,hq_,QW,aG ax,ll,lt,l6,e0,hb0,lf,hneg,e1,e2,l1,cZ,w1,s1,l2,t1,hy,l4,afW,zbh,kZ (m:=6) (z:=[zI,zI,zI,zI,zB,zN]) (v:=.agg e'.av) rfl rfl (lN e'),a1,a2]
    ·refine a3.sub λq' cs hq'=>?_;have n1:g H.next=none:=G.isNone (zac _)
     unfold upd at hq' ⊢;by_cases e3:q'=q
     ·rw [if_pos e3] at hq' ⊢;cases hq';simp [dG]
     ·rw [if_neg e3] at hq' ⊢;have:q'≠H.next:=λe4=>by rw [e4,n1] at hq';cases hq'
      rw [if_neg this,if_neg e3,if_neg this];exact hq'
end
def RF:∀(es:List (Int × AV)) (n:Int) (v:AV),L6 es n v=mM es n v
 |[],_,_=>rfl
 |(k,w)::es,n,v=>by
  simp only [L6,mM];split
  ·rfl
  ·rw [RF es n v]
def OV {α:Type}:∀{es:List (Int × α)} {n:Int} {v:α} {j:Nat} {n':Int} {w:α},(es.map (·.1)).Nodup->(mM es n v)[j]?=some (n',w)->(n'=n/\w=v)∨(n'≠n/\es[j]?=some (n',w))
 |[],n,v,j,n',w,_,h=>by
  simp only [mM] at h;cases j with
  |zero=>simp only [zaT,zaa,zad] at h;exact .inl ⟨h.1.symm,h.2.symm⟩
  |succ j=>simp at h
 |(m,o)::es,n,v,j,n',w,b,h=>by
  simp only [zax,za1] at b;simp only [mM] at h;split at h
  ·rename_i e;cases j with
   |zero=>simp only [zaT,zaa,zad] at h;exact .inl ⟨h.1.symm,h.2.symm⟩
   |succ j=>
    simp only [zbf] at h;refine .inr ⟨λd=>b.1 ?_,by simpa using h⟩;rw [e,<-d];exact zaI.2 ⟨_,zan h,rfl⟩
  ·rename_i e;cases j with
   |zero=>
    simp only [zaT,zaa,zad] at h;refine .inr ⟨λd=>e (by rw [h.1,d]),by simp [h.1,h.2]⟩
   |succ j=>
    simp only [zbf] at h;rcases OV b.2 h with g|⟨i,k⟩
    ·exact .inl g
    ·exact .inr ⟨i,by simpa using k⟩
def Lu {α β:Type}:∀{es:List (Int × α)} {b:List (Int × β)} {n:Int} {v:α} {w:β},b.map (·.1)=es.map (·.1)->(mM b n w).map (·.1)=(mM es n v).map (·.1)
 |[],[],_,_,_,_=>rfl
 |[],_::_,_,_,_,h=>by simp at h
 |_::_,[],_,_,_,h=>by simp at h
 |(k,d)::es,(k',w0)::b,n,v,w,h=>by
  simp only [zax,zbU] at h;obtain⟨rfl,h⟩:=h;simp only [mM];split
  ·simp [h]
  ·simp only [zax,zbU,true_and];exact Lu h
section
variable {b:Nat}{H:ah}{g:bD}{q:Nat}{cs:List Cell}
def Good.OW(G:Good b H g)(h:g q=some cs){i m:Nat}{k:IntKind}{es:List (Int × List AV)}(hi:cs[i]?=some (.maps k m es))(hnd:(es.map (·.1)).Nodup)(n:Int):
  ∃r x,ld (.ref q 0 i) H=some (.mp r,H)/\lk k (.slice none 0 0) (.mp r) (.s (.int k n)) false H=some (x,H)/\Own b H x m ((jC es n).getD [])/\iK x≠some q/\q<H.next/\(∀r',iK x=some r'->b<=r')/\
   ∀H1 x' l',H.next<=H1.next->H1.base<=b->(∀r',r'<H.next->iK x≠some r'->H1.get r'=H.get r')->Fit H H1 x x' m l'->
    ∃H',mup k (.mp r) (.s (.int k n)) x' H1=some (bg,H')/\Good b H' (upd g q (cs.set i (.maps k m (mM es n l'))))/\Step b H1 H'/\H'.next=H1.next:=by
 obtain⟨h0,τ,hR⟩:=G;have R:=hR q cs h;obtain⟨ty,xs,h1,h2,h3,h4⟩:=R.blk;have hqn:=R.hi;have hlt:i<xs.length:=by rw [h2];exact(zae.1 hi).1
 have hx:xs[i]?=some (xs[i]'hlt):=zab hlt;have:=h4 i _ _ hi hx;simp only [CR] at this;obtain⟨aes,⟨r,e,t1,t2,t3,t4⟩,a2,a3⟩:=this;rw [e] at hx;have hrq:q≠r:=by intro e;subst e;rw [R.tag] at t1;cases t1
 obtain⟨x,x1,x2⟩:∃x,OS b H τ (q,i+1,1,n) x m ((jC es n).getD [])/\lk k (.slice none 0 0) (.mp r) (.s (.int k n)) false H=some (x,H):=by
  cases hn:jC es n with
  |none=>
   have hf:qY aes n=none:=by rw [uN];exact(Ru a2).1 hn
   refine⟨zN,.inl ⟨rfl,rfl⟩,?_⟩;simp only [lk,kS,bT,zak,lkO,t4,and_self,if_true,hf];rfl
  |some l=>
   obtain⟨j,w,b1,b2,b3⟩:=I8 a2 hn;refine⟨w,a3 j n l w b2 b3,?_⟩;simp only [lk,kS,bT,zak,lkO,t4,and_self,if_true,uN,b1];rfl
 have htag:∀r',iK x=some r'->τ r'=some (q,i+1,1,n)/\b<=r':=by
  intro r' hr;rcases x1 with⟨rfl,_⟩|⟨r0,gg,off,n',cap,ex,ty',all,rfl,k1,k2,_⟩
  ·cases hr
  ·simp only [iK,zaa] at hr;subst hr;exact⟨k1,k2⟩
 have hxq:iK x≠some q:=λe=>by have:=(htag q e).1;rw [R.tag] at this;cases this
 have hxr:iK x≠some r:=λe=>by have:=(htag r e).1;rw [t1] at this;simp at this
 refine⟨r,x,by rw [fJ h1,hx];rfl,x2,x1.own,hxq,hqn,λr' hr=>(htag r' hr).2,λH1 x' l' hn hb hk hf=>?_⟩;have hg1:H1.get r=.map k aes:=by rw [hk r t3 hxr,t4]
 refine⟨H1.put r (.map k (L6 aes n x')),?_,?_,Step.put _ t2,rfl⟩
 ·simp only [mup,hg1];rw [if_pos ⟨trivial,trivial,by omega⟩]
 ·refine yu (τ':=λr'=>if H.next<=r' then some (q,i+1,1,n) else τ r') h0 hR (show H.next<=H1.next from hn) (λr' hr ht=>⟨by rw [if_neg (by omega)],?_⟩)
   ⟨by rw [if_neg (by omega)];exact R.tag,R.lo,show q<H1.next by omega,wM (xs:=xs) (by rw [dV,if_neg hrq,hk q hqn hxq];exact h1) (R.tyl _ _ _ h1),ty,xs,by rw [dV,if_neg hrq,hk q hqn hxq];exact h1,by simp [h2],h3,λj cc y hc hy=>?_⟩
  ·rw [dV,if_neg (by intro e;subst e;exact ht _ _ _ t1)];exact hk r' hr λe=>ht _ _ _ (htag r' e).1
  ·rcases nX hc with⟨rfl,rfl⟩|⟨hj,hc⟩
   ·rw [hx] at hy;cases hy;refine⟨mM aes n x',⟨r,rfl,by simp only;rw [if_neg (by omega)];exact t1,t2,show r<H1.next by omega,by rw [dV,if_pos rfl,RF]⟩,Lu a2,λj' n' cells y' h5 h6=>?_⟩;rcases OV hnd h5 with⟨rfl,rfl⟩|⟨hne,h5⟩
    ·rcases OV (by rw [a2];exact hnd) h6 with⟨_,rfl⟩|⟨hne,_⟩
     ·rcases hf with hf|⟨r0,gg,off,n'',cap,ex,ty',all,rfl,k1,k2,k3,k4,k5⟩
      ·exact .inl hf
      ·have hr0:r0≠r:=by
        rcases k1 with k1|k1
        ·intro e;subst e;exact hxr k1
        ·omega
       refine .inr ⟨r0,gg,off,n'',cap,ex,ty',all,rfl,?_,?_,k2,k3,by rw [dV,if_neg hr0];exact k4,k5⟩
       ·show(if H.next<=r0 then some (q,j+1,1,n') else τ r0)=some (q,j+1,1,n');split
        ·rfl
        ·rcases k1 with k1|k1
         ·exact(htag r0 k1).1
         ·omega
       ·rcases k1 with k1|k1
        ·exact(htag r0 k1).2
        ·omega
     ·exact absurd rfl hne
    ·rcases OV (by rw [a2];exact hnd) h6 with⟨h7,_⟩|⟨_,h6⟩
     ·exact absurd h7 hne
     ·refine(a3 j' n' cells y' h5 h6).keep (show H.next<=H1.next from hn) λr' hr ht=>⟨by rw [if_neg (by omega)];exact ht,?_⟩
      rw [dV,if_neg (by intro e;subst e;rw [t1] at ht;simp at ht)];refine hk r' hr λe=>?_;have:=(htag r' e).1;rw [this] at ht;simp only [zaa,zad,true_and] at ht;exact hne ht.symm
   ·refine(h4 j cc y hc hy).keep (show H.next<=H1.next from hn) λr' s t hr ht=>⟨by rw [if_neg (by omega)];exact ht,?_⟩
    rw [dV,if_neg (by intro e;subst e;rw [t1] at ht;simp only [zaa,zad,zce] at ht;exact hj ht.2.1.symm)];refine hk r' hr λe=>?_;have:=(htag r' e).1;rw [this] at ht;simp only [zaa,zad,zce] at ht;exact hj ht.2.1.symm
def Good.ajL(G:Good b H g)(h:g q=some cs){i m:Nat}{k:IntKind}{es:List (Int × List AV)}(hi:cs[i]?=some (.maps k m es)):
  ∃r aes,ld (.ref q 0 i) H=some (.mp r,H)/\r<H.next/\H.get r=.map k aes/\aes.map (·.1)=es.map (·.1):=by
 obtain⟨h0,τ,hR⟩:=G;have R:=hR q cs h;obtain⟨ty,xs,h1,h2,h3,h4⟩:=R.blk;have hlt:i<xs.length:=by rw [h2];exact(zae.1 hi).1
 have hx:xs[i]?=some (xs[i]'hlt):=zab hlt;have:=h4 i _ _ hi hx;simp only [CR] at this;obtain⟨aes,⟨r,e,t1,t2,t3,t4⟩,a2,a3⟩:=this;rw [e] at hx;exact⟨r,aes,by rw [fJ h1,hx];rfl,t3,t4,a2⟩
end
abbrev DJ(t:Turns):List (Int × List AV):=t.wait.map λe=>(e.1,e.2.flatMap JH)
def DK(t:Turns):(DJ t).map (·.1)=t.wait.map (·.1):=by simp [DJ]
def Jb(t:Turns)(aj:Int):(jC (DJ t) aj).getD []=(t.ws aj).flatMap JH:=by
 rw [DJ,OU (λl:List (Int × Int)=>l.flatMap JH)];unfold Turns.ws;cases jC t.wait aj <;> rfl
def RG(w:List (Int × List (Int × Int)))(aj:Int)(l:List (Int × Int)):mM (w.map λe=>(e.1,e.2.flatMap JH)) aj (l.flatMap JH)=(mM w aj l).map λe=>(e.1,e.2.flatMap JH):=by
 induction w with
 |nil=>rfl
 |cons e w b=>
  obtain⟨k,v⟩:=e;simp only [zax,mM];split
  ·rfl
  ·rw [b];rfl
section
variable {b:Nat}{H:ah}{g:bD}{q:Nat}
def aeV(G:Good b H g)(hb:H.base<=b){t:Turns}(h:g q=some (iR t))(hw:(t.wait.map (·.1)).Nodup)(aj who id:Int)(hl:(t.ws aj).length<1000000):
  ∃H',cl 169 [.ref q 0 0,I aj,I who,I id] H=some (B (t.ask aj who id).2,H')/\Good b H' (upd g q (iR (t.ask aj who id).1))/\Step b H H':=by
 refine kQ rfl rfl (aor _ _ _ _ _ _) ?_;have A:=yL G h aj;have Q:=xZ G h aj;by_cases d:who<0
 ·have C:t.ask aj who id=(t,false):=by simp only [Turns.ask];rw [if_pos d]
  rw [C];refine⟨H,?_,by rw [fP h];exact G,Step.refl _ _⟩;simp only [xq_,Q5,d]
 ·by_cases hc:(t.owned aj || !(t.ws aj).isEmpty)=true
  ·have C:t.ask aj who id=({ t with wait:=mM t.wait aj (t.ws aj++[(who,id)]) },false):=by simp only [Turns.ask];rw [if_neg d,if_pos hc]
   rw [C];obtain⟨r,x,F,K,f3,f4,f5,f6,f7⟩:=G.OW h (i:=1) rfl (by rw [show t.wait.map (λe=>(e.1,e.2.flatMap λw=>[I w.1,I w.2]))=DJ t from rfl,DK];exact hw) aj;rw [show t.wait.map (λe=>(e.1,e.2.flatMap λw=>[I w.1,I w.2]))=DJ t from rfl,Jb] at f3;let o:gu:=.blk 0 258 [I who,I id];obtain⟨x',H1,R,T,a3,a4,a5⟩:=(f3.new o).app (e:=258) (by_:=16) (n:=(t.ws aj).length) (by rw [jB];exact hb) Z (dM (enc:=JH) (λ_=>rfl) _) (kN (ex:=true) (n:=1) (m:=2) (l:=[I who,I id]) rfl) rfl (by unfold most;omega) (by unfold most;omega);have W:Fit H H1 x x' 2 ((t.ws aj++[(who,id)]).flatMap JH):=by
    rw [zbG];rcases T with T|⟨r0,gg,off,n',X,ex,ty,all,k0,k1,k2⟩
    ·exact .inl T
    ·exact .inr ⟨r0,gg,off,n',X,ex,ty,all,k0,k1.imp (λh=>h) λh=>zaz (za8 _) h,k2⟩
   have j:∀r',r'<H.next->iK x≠some r'->H1.get r'=H.get r':=λr' p aa=>by rw [a5 r' (zay p (za8 _)) aa,bJ p]
   obtain⟨H',L,M,m3,m4⟩:=f7 H1 x' _ (zaz (za8 _) a3) (by rw [a4,jB];exact hb) j W;have ab:H1.get q=(H.new o).get q:=by rw [j q f5 f4,bJ f5]
   refine⟨H',?_,?_,Step.trans ⟨by rw [a4,jB],zaz (za8 _) a3,λr' p=>j r' (zay p G.1) λe=>by have:=f6 r' e;omega⟩ m3⟩
   ·have u:∀{β:Type} (k:Option β),ck (bT (.ref q 0 1)) (H.new o) H1 k=k:=λk=>Yh λr' p=>by
     simp only [bT,zaa] at p;subst p;exact ab
    have ed:bd 258 [(0,I who),(1,I id)]=some (.agg [I who,I id]):=by
     simp only [xq_,alD,jf,fK,agi];rfl
    have eb:=kZ (e:=258) (m:=2) (z:=[zI,zI]) (v:=.agg [I who,I id]) (H:=H) rfl rfl rfl;simp only [fA] at eb;simp only [o] at R u;cases D:t.owned aj with
    |true=>
     rw [D] at A;simp only [xq_,Q5,d,A,F,K,ed,afX,zbh,Nat.reduceLeDiff,eb,R,L,u]
    |false=>
     rw [D] at A hc;have y:(0:Int)<(t.ws aj).length:=by
      cases E:t.ws aj with
      |nil=>rw [E] at hc;simp at hc
      |cons a l=>simp only [zal];omega
     simp only [xq_,Q5,d,A,Q,y,F,K,ed,afX,zbh,Nat.reduceLeDiff,eb,R,L,u]
   ·have:iR { t with wait:=mM t.wait aj (t.ws aj++[(who,id)]) }=(iR t).set 1 (.maps .i64 2 (mM (DJ t) aj ((t.ws aj++[(who,id)]).flatMap JH))):=by
     rw [RG];rfl
    rw [this];exact M
  ·have C:t.ask aj who id=({ t with gG:=mM t.gG aj who },true):=by simp only [Turns.ask];rw [if_neg d,if_neg hc]
   rw [C];have D:t.owned aj=false:=by cases h1:t.owned aj <;> simp_all
   have E:t.ws aj=[]:=by
    rw [D] at hc;cases E:t.ws aj with
    |nil=>rfl
    |cons a l=>rw [E] at hc;simp at hc
   rw [D] at A;rw [E] at Q;obtain⟨r,F,_,_,K⟩:=G.map h (i:=0) rfl;obtain⟨H',L,M,m3,m4⟩:=(K hb).1 aj (I who);refine⟨H',?_,?_,m3⟩
   ·have y:¬(0:Int)<(0:Nat):=Z
    simp only [xq_,Q5,d,A,Q,zao,y,F,L]
   ·rw [Ip (λn=>I n)] at M;exact M
def RH(G:Good b H g)(hb:H.base<=b){t:Turns}(h:g q=some (iR t))(aj who:Int):
  ∃H',cl 189 [.ref q 0 0,I aj,I who] H=some (I (t.release aj who).2,H')/\Good b H' (upd g q (iR (t.release aj who).1))/\Step b H H':=by
 refine kQ rfl rfl (aoI _ _ _ _ _) ?_;have e:=yL G h aj;obtain⟨r,o,u,_,v⟩:=G.map h (i:=0) rfl;have k:=u (.int .i64 0) aj false;rw [yA] at k;cases d:jC t.gG aj with
 |none=>
  have j:t.release aj who=(t,6):=by simp only [Turns.release,d];rw [if_neg O]
  have m:t.owned aj=false:=by simp [Turns.owned,d]
  rw [j];rw [m] at e;refine⟨H,?_,by rw [fP h];exact G,Step.refl _ _⟩;simp only [xq_,Wx,e,zam]
 |some w=>
  have m:t.owned aj=true:=by simp [Turns.owned,d]
  rw [m] at e;simp only [d,zak,zai,if_false] at k;by_cases hw:w=who
  ·have j:t.release aj who=({ t with gG:=yU t.gG aj },0):=by simp only [Turns.release,d];rw [if_pos (by rw [hw])]
   rw [j];obtain⟨H',y,p,z,A⟩:=(v hb).2 aj;refine⟨H',?_,?_,z⟩
   ·simp only [xq_,Wx,e,zaf,o,k,hw,y]
   ·rw [VR (λn=>I n)] at p;exact p
  ·have j:t.release aj who=(t,6):=by simp only [Turns.release,d];rw [if_neg (by simpa using hw)]
   rw [j];refine⟨H,?_,by rw [fP h];exact G,Step.refl _ _⟩;simp only [xq_,Wx,e,zaf,zam,o,k,hw]
def ao0(o:Option (Int × Int)):AV:=.tup [I (o.getD (0,0)).1,I (o.getD (0,0)).2,B o.isSome]
def abZ(G:Good b H g)(hb:H.base<=b){t:Turns}(h:g q=some (iR t))(hw:(t.wait.map (·.1)).Nodup)(aj:Int)(hl:(t.ws aj).length<1000000):
  ∃H',cl 125 [.ref q 0 0,I aj] H=some (ao0 (t.next aj).2,H')/\Good b H' (upd g q (iR (t.next aj).1))/\Step b H H':=by
 refine kQ rfl rfl (anH _ _ _ _) ?_;have e1:=yL G h aj;have e2:=xZ G h aj;cases ho:t.owned aj with
 |true=>
  have hp:t.next aj=(t,none):=by simp only [Turns.next,ho,if_true]
  rw [hp];rw [ho] at e1;refine⟨H,?_,by rw [fP h];exact G,Step.refl _ _⟩;simp only [xq_,V7,e1,ao0,za5,zaK]
 |false=>
  rw [ho] at e1;cases hz:t.ws aj with
  |nil=>
   have hp:t.next aj=(t,none):=by simp only [Turns.next,ho,hz,zai,if_false]
   rw [hp];rw [hz] at e2;refine⟨H,?_,by rw [fP h];exact G,Step.refl _ _⟩;simp only [xq_,V7,e1,e2,zao,Int.ofNat_zero,ao0,za5,zaK]
  |cons w l=>
   have hp:t.next aj=(⟨mM t.gG aj w.1,mM t.wait aj l⟩,some w):=by simp only [Turns.next,ho,hz,zai,if_false]
   rw [hp];rw [hz] at e2;obtain⟨r,x,f1,f2,f3,f4,f5,f6,f7⟩:=G.OW h (i:=1) rfl (by rw [show t.wait.map (λe=>(e.1,e.2.flatMap λw=>[I w.1,I w.2]))=DJ t from rfl,DK];exact hw) aj;rw [show t.wait.map (λe=>(e.1,e.2.flatMap λw=>[I w.1,I w.2]))=DJ t from rfl,Jb,hz] at f3;have hs:=f3.is (n:=(w::l).length) (by decide) (dM (enc:=JH) (λ_=>rfl) _);have s1:=hs.ix (k:=.i64) (i:=(0:Int)) (by omega) (by simp only [zal];omega);rw [show((0:Int).toNat)=0 from rfl] at s1;have s2:=mW (enc:=JH) (λ_=>rfl) hs (i:=0) (a:=w) rfl;have G1:=G.newObj (ty:=258) (xs:=[I w.1,I w.2]) rfl;have hqn:q≠H.next:=G.ne h
   have h1:upd g H.next ([I w.1,I w.2].map .av) q=some (iR t):=by rw [bn hqn];exact h
   obtain⟨r',x',f1',f2',f3',f4',f5',f6',f7'⟩:=G1.OW h1 (i:=1) rfl (by rw [show t.wait.map (λe=>(e.1,e.2.flatMap λw=>[I w.1,I w.2]))=DJ t from rfl,DK];exact hw) aj;rw [show t.wait.map (λe=>(e.1,e.2.flatMap λw=>[I w.1,I w.2]))=DJ t from rfl,Jb,hz] at f3';have hln:=f3'.is (n:=(w::l).length) (by decide) (dM (enc:=JH) (λ_=>rfl) _);rcases f3' with⟨_,f3'⟩|⟨r0,gg,off,n',cap,ex,ty,all,rfl,k2,k3,k4,k5,k6,k7,k8⟩
   ·simp [JH] at f3'
   have hn':n'=l.length+1:=by have:=hln.2.2.1;simp only [zal] at this;omega
   subst hn';have sl:=Fh (r:=r0) (gg:=gg) (off:=off) (m:=2) (len:=l.length+1) (cap:=cap) (ex:=ex) (k1:=.i64) (lo:=1) (by decide) (by omega) k4;have t1:(1:Int).toNat=1:=rfl;rw [t1,zbh,Nat.add_sub_cancel] at sl;have hle:(l.length+1)*2<=cap*2:=zaD _ k4;have hfit:Fit (H.new (.blk 0 258 [I w.1,I w.2])) (H.new (.blk 0 258 [I w.1,I w.2])) (.sl r0 gg off 2 (l.length+1) cap ex) (.sl r0 gg (off+2) 2 l.length (cap-1) ex) 2 (l.flatMap JH):=by
    refine .inr ⟨r0,gg,off+2,l.length,cap-1,ex,ty,all,rfl,.inl rfl,k3,by omega,k5,by rw [Nat.sub_mul];omega,k7,?_⟩;have:=congrArg (List.drop 2) k8;rw [zaC,List.drop_append_of_le_length (by simp [JH]),show(JH w).drop 2=[] from rfl,zaM,zcp,zbL] at this;rw [this]
    congr 1
    omega
   obtain⟨H2,m1,G2,m3,m4⟩:=f7' (H.new (.blk 0 258 [I w.1,I w.2])) _ _ (zac _) (by rw [jB];exact hb) (λ_ _ _=>rfl) hfit;have e3:(iR t).set 1 (.maps .i64 2 (mM (DJ t) aj (l.flatMap JH)))=iR ⟨t.gG,mM t.wait aj l⟩:=by
    rw [RG];rfl
   rw [show(List.map (λe=>(e.1,List.flatMap (λw=>[I w.1,I w.2]) e.2)) t.wait)=DJ t from rfl,e3] at G2;obtain⟨ro,o1,_,_,o2⟩:=G2.map aQ (i:=0) rfl;have hb2:H2.base<=b:=by rw [m3.base,jB];exact hb
   obtain⟨H3,p1,G3,p3,p4⟩:=(o2 hb2).1 aj (I w.1);have j2:∀cs,upd (upd g H.next ([I w.1,I w.2].map .av)) q cs H.next=some ([I w.1,I w.2].map .av):=λcs=>by rw [bn hqn.symm,aQ]
   have v1:=G2.load (j2 _) (i:=0) (x:=I w.1) rfl;rw [qw] at G3;have v2:=G3.load (j2 _) (i:=0) (x:=I w.1) rfl;have v3:=G3.load (j2 _) (i:=1) (x:=I w.2) rfl;refine⟨H3,?_,?_,((Step.new _ G.1).trans m3).trans p3⟩
   ·have hne:¬((l.length+1:Nat):Int)=0:=by omega
    have hbn:H.base<=H.next:=zaz hb G.1
    simp only [JH] at s2;simp only [Nat.reduceAdd,aO,xq_,hq_,V7,e1,e2,hne,f1,f2,s1,s2,hbn,f1',f2',sl,m1,o1,v1,p1,v2,v3,ao0,zav,zaL]
   ·rw [Ip (λn=>I n)] at G3;refine G3.sub ?_;exact((sK.refl g).more (G.isNone (zac _)) _).both q _
end
abbrev blw(n lo hi:Int):Bool:=decide (lo<=n) && decide (n<hi)
def aeW(H:ah)(n lo hi:Int):cl 168 [I n,I lo,I hi] H=some (B (blw n lo hi),H):=by
 refine bC rfl rfl (ahA _ _ _ _ _ ?_);by_cases h:lo<=n
 ·simp only [xq_,QZ,h,blw,zaN]
 ·simp only [xq_,QZ,h,blw,zaP]
def ao1(a b c:Bool):a=false∨(a=true/\b=false)∨(a=true/\b=true/\c=false)∨(a=true/\b=true/\c=true):=by revert a b c;decide
def Pkt.ok_eq(p:Pkt):p.ok=(blw p.src 0 6 && blw p.dst 0 6 && blw p.id 0 4096 && (blw p.aS 1 10 && blw p.aj 0 8 && blw p.ptr (-1) 6) && blw p.aV 0 3 && !decide ((4:Int)<p.data.length)):=by
 have:decide (p.data.length<=4)=!decide ((4:Int)<p.data.length):=by
  by_cases h:p.data.length<=4
  ·have:¬(4:Int)<p.data.length:=V
   simp [h,this]
  ·have:(4:Int)<p.data.length:=V
   simp [h,this]
 unfold Pkt.ok;rw [this];simp only [blw,Bool.and_assoc]
def BL(H:ah)(p:Pkt):cl 127 [.agg p.av] H=some (I (if p.ok=true then 0 else 1),H):=by
 refine dD rfl rfl (ag4 _ _ _) ?_ iD;have b:=λH n lo hi=>aeW H n lo hi;have d:=λH=>(kY H p.data).lnS;rw [p.ok_eq];generalize e:blw p.src 0 6=b1;generalize g:blw p.dst 0 6=b2;generalize h:blw p.id 0 4096=b3;generalize i:blw p.aS 1 10=b4;generalize j:blw p.aj 0 8=b5;generalize k:blw p.ptr (-1) 6=b6;generalize m:blw p.aV 0 3=b7;by_cases o:(4:Int)<p.data.length
 all_goals rcases ao1 b1 b2 b3 with rfl|⟨rfl,rfl⟩|⟨rfl,rfl,rfl⟩|⟨rfl,rfl,rfl⟩
 all_goals rcases ao1 b4 b5 b6 with rfl|⟨rfl,rfl⟩|⟨rfl,rfl,rfl⟩|⟨rfl,rfl,rfl⟩
 all_goals cases b7
 all_goals simp only [Nat.reduceLT,Int.reduceNeg,xq_,hq_,aaY,aG,Pkt.av,b,d,e,g,h,i,j,k,m,o,zaf,zam,zaP,zb8]
def LC(H:ah)(k:Int):cl 50 [I k] H=some (B (qU k),H):=by
 refine dD rfl rfl (arw _ _ _) ?_ iD;by_cases h:1<=k
 ·simp only [xq_,ai3,h,qU,zaN]
 ·simp only [xq_,ai3,h,qU,zaP]
def RI(H:ah)(k:Int):cl 171 [I k] H=some (I (CZ k),H):=by
 refine dD rfl rfl (aou _ _ _) ?_ iD;by_cases b:k=1
 ·simp only [Int.reduceEq,xq_,Ez,b,CZ]
 ·by_cases d:k=2
  ·simp only [Int.reduceEq,xq_,Ez,qM,d,CZ,true_or]
  ·by_cases e:k=4
   ·simp only [Int.reduceEq,xq_,Ez,qM,e,CZ,true_or,or_true]
   ·by_cases g:k=5
    ·simp only [Int.reduceEq,xq_,Ez,qM,g,CZ,or_true]
    ·by_cases h:k=3
     ·simp only [Int.reduceEq,xq_,Ez,qM,BH,h,CZ,true_or,false_or]
     ·by_cases i:k=6
      ·simp only [Int.reduceEq,xq_,Ez,qM,BH,i,CZ,or_true,false_or]
      ·simp only [xq_,Ez,qM,BH,b,d,h,e,g,i,CZ,false_or]
def pI(z:Int):((by8 z).toNat:Int)=z % 256:=by
 unfold by8;have h:(BitVec.ofInt 8 z).toNat=(z % ((2 ^ 8:Nat):Int)).toNat:=BitVec.toNat_ofInt z;have b:(0:Int)<=z % 256:=zch _ Z;rw [h,show((2 ^ 8:Nat):Int)=256 from rfl,zc9 b]
def WX(z:Int):(AV.s (.int .u8 (IntKind.wrap .u8 z)))=Y (by8 z):=by
 show _=AV.s (.int .u8 ((by8 z).toNat:Int));rw [pI,agK rfl];rfl
def asD(H:ah)(f:Bool):cl0 139 [B f] H=some (Y (by8 (if f then 1 else 0)),H):=by
 refine iQ (anX _ _ _ ?_);cases f
 ·simp only [xq_,aa0];rfl
 ·simp only [xq_,aa0];rfl
def aur(H0 H:ah)(x:AV)(l:List AV):Prop:=
 (x=zN/\l=[])∨(∃r g b,x=.sl r g 0 1 l.length l.length false/\H0.next<=r/\r<H.next/\H.get r=.blk g b l)∨(∃r b,x=.sl r 0 0 1 l.length l.length true/\H0.next<=r/\r<H.next/\H.get r=.blk 0 b l)
structure Acc(H0 H:ah)(x:AV)(l:List AV):Prop where
 gro:Gro H0 H
 base:H.base<=H0.next
 x:aur H0 H x l
def Acc.is {H0 H:ah}{x:AV}{l:List AV}(a:Acc H0 H x l):aN H x 1 l.length l:=by
 refine⟨V,?_⟩;rcases a.x with⟨rfl,rfl⟩|⟨r,g,b,rfl,e,d,h⟩|⟨r,b,rfl,i,e,d⟩
 ·exact⟨rfl,rfl,rfl⟩
 ·exact⟨rfl,rfl,⟨d,zac _⟩,b,l,h,V,O⟩
 ·exact⟨rfl,rfl,⟨e,zac _⟩,b,l,d,V,O⟩
def Acc.one {H0 H:ah}{x:AV}{l:List AV}(a:Acc H0 H x l):One x:=by
 rcases a.x with⟨rfl,rfl⟩|⟨r,g,b,rfl,d,e,i⟩|⟨r,b,rfl,h,d,e⟩
 ·exact qx
 ·exact uD
 ·exact uD
def Acc.asE {H0 H H':ah}{x:AV}{l:List AV}(a:Acc H0 H x l)(g:Gro H H'):Acc H0 H' x l:=by
 refine⟨a.gro.trans g,by rw [g.base];exact a.base,?_⟩;rcases a.x with h|⟨r,g',ty,h0,h1,h2,h3⟩|⟨r,ty,h0,h0',h1,h2⟩
 ·exact .inl h
 ·exact .inr (.inl ⟨r,g',ty,h0,h1,zay h2 g.next,by rw [g.same r h2];exact h3⟩)
 ·exact .inr (.inr ⟨r,ty,h0,h0',zay h1 g.next,by rw [g.same r h1];exact h2⟩)
def Gro.put {H0 H:ah}{r g ty:Nat}{xs:List AV}(G:Gro H0 H)(e:H0.next<=r):Gro H0 (H.put r (.blk g ty xs)):=
 ⟨G.next,G.base,λx b=>by
  have:(H.put r (.blk g ty xs)).get x=H.get x:=by simp only [ah.put];rw [if_neg V]
  rw [this];exact G.same x b,λh x k d=>by
  simp only [ah.put];split
  ·simp
  ·exact G.Q9 h x k d⟩
def Acc.app {H0 H:ah}{x:AV}{l:List AV}(a:Acc H0 H x l){e by_ n:Nat}{y:AV}{new:List AV}(hy:aN H y 1 n new)(hc:new.all AV.aP=true)(hn:n≠0)(hs:l.length+n<1000)(hby:by_<=16):
  ∃x' H',app e 1 by_ x y H=some (x',H')/\Acc H0 H' x' (l++new):=by
 have hnew:new.length=n:=by have:=hy.1;omega
 obtain⟨c1,c2⟩:=hy.zf;have hb1:n*by_<=most:=by
  have:n*by_<=1000*16:=Nat.mul_le_mul (by omega) hby;unfold most;omega
 have hb2:(l.length+n)*by_<=most:=by
  have:(l.length+n)*by_<=1000*16:=Nat.mul_le_mul (by omega) hby;unfold most;omega
 have hm1:n<=most:=by unfold most;omega
 have hm2:l.length+n<=most:=by unfold most;omega
 rcases a.x with⟨rfl,rfl⟩|⟨r,g,ty,rfl,h1,h2,h3⟩|⟨r,ty,rfl,h0',h1,h2⟩
 ·refine⟨_,_,Nw hy hc hn hm1 hb1,a.gro.trans (Gro.new _ _ _ _),by rw [jB];exact a.base,.inr (.inl ⟨H.next,0,e+iC,?_,a.gro.next,by rw [eX];omega,?_⟩)⟩
  ·simp only [zaM,hnew]
  ·rw [aZ rfl,zaM]
 ·refine⟨.sl r (g+1) 0 1 (l.length+n) (l.length+n) false,H.put r (.blk (g+1) (grT e ty 0) (l++new)),?_,a.gro.put h1,a.base,.inr (.inl ⟨r,g+1,grT e ty 0,?_,h1,h2,?_⟩)⟩
  ·simp only [Proofs.YtljogojaihgdlaaGreat.app,c1,c2];unfold dZ;rw [if_pos ⟨hy.1,hc⟩];simp only [h3];rw [if_pos ⟨trivial,trivial,by omega⟩,if_neg hn,if_neg (by omega),if_pos ⟨hm2,hb2⟩];simp only [zai,if_false,zaS];rw [if_pos (zaz a.base h1)];simp
  ·simp only [zaq,hnew]
  ·simp only [ah.put,if_true]
 ·refine⟨.sl H.next 0 0 1 (l.length+n) (l.length+n) false,H.new (.blk 0 (e+iC) (l++new)),?_,a.gro.trans (Gro.new _ _ _ _),by rw [jB];exact a.base,.inr (.inl ⟨H.next,0,e+iC,?_,a.gro.next,by rw [eX];omega,aZ rfl⟩)⟩
  ·simp only [Proofs.YtljogojaihgdlaaGreat.app,c1,c2];unfold dZ;rw [if_pos ⟨hy.1,hc⟩];simp only [h2];rw [if_pos ⟨trivial,trivial,by omega⟩,if_neg hn,if_neg (by omega),if_pos ⟨hm2,hb2⟩];simp
  ·simp only [zaq,hnew]
def ab1(n:Int):∀k,k<8->(rX n).drop (8-(k+1))=by8 (n.fdiv (2 ^ (8*k)))::(rX n).drop (8-k)
 |0,_|1,_|2,_|3,_|4,_|5,_|6,_|7,_=>rfl
 |k+8,h=>absurd h V
def asF(H:ah)(hb:H.base<=H.next)(n:Int):∃y H',cl0 140 [I n] H=some (y,H')/\Acc H H' y ((rX n).map Y):=by
 have key:∀k:Nat,k<=8->∀(x:AV) (K:ah) (l:List By),Acc H K x (l.map Y)->l.length+k=8->∃y H',FH cl0 [I n,x,I (8*(k:Int)-8)] K=some (y,H')/\Acc H H' y ((l++(rX n).drop (8-k)).map Y):=by
  intro k
  induction k with
  |zero=>
   intro hk x K l a i;have b:¬((0:Int)<=8*((0:Nat):Int)-8):=V
   refine⟨x,K,?_,by rw [show(rX n).drop (8-0)=[] from rfl,zbm];exact a⟩;rw [Wh];simp only [xq_,b]
  |succ k j=>
   intro hk x K l a i;have o:8*((k+1:Nat):Int)-8=((8*k:Nat):Int):=V
   have b:(0:Int)<=((8*k:Nat):Int):=V
   have p:bi .shr 3 (I n) (I ((8*k:Nat):Int))=some (I (n.fdiv (2 ^ (8*k)))):=by
    have:=Ur (P:=Tryz.prog) (t:=3) (k:=.i64) (k':=.i64) (a:=n) b;rw [zar,show min (8*k) (IntKind.bits .i64)=8*k from zbo (show 8*k<=64 by omega)] at this;exact this
   have h:cv 3 5 (I (n.fdiv (2 ^ (8*k)))) K=some (Y (by8 (n.fdiv (2 ^ (8*k)))),K):=by rw [<-WX];exact agm
   obtain⟨c,hc⟩:∃c,by8 (n.fdiv (2 ^ (8*k)))=c:=⟨_,rfl⟩
   rw [hc] at h;have q:bs 172 1 [(0,Y c)] K=some (.sl K.next 0 0 1 1 1 true,K.new (.blk 0 5 [Y c])):=(VL Z).trans (kZ rfl rfl rfl);have u:=a.asE (Gro.new K 0 5 [Y c]);obtain⟨v,K',z,A⟩:=u.app (e:=5) (by_:=1) (n:=1) (kN (e:=5) (H:=K) (ex:=true) (n:=1) (m:=1) (l:=[Y c]) rfl) rfl Z (by simp;omega) Z;have C:((8*k:Nat):Int)-8=8*(k:Int)-8:=V
   have w:=wrap_i64 (a:=8*(k:Int)-8) V V;obtain⟨y,H',d,g⟩:=j V v K' (l++[c]) (by simpa using A) (by simp;omega);refine⟨y,H',?_,?_⟩
   ·rw [Wh,o];simp only [xq_,b,p,h,q,z,kH,C,w,d]
   ·rw [ab1 n k V,hc]
    simpa using g
 obtain⟨y,H',d,g⟩:=key 8 (zac _) zN H [] ⟨Gro.refl H,hb,.inl ⟨rfl,rfl⟩⟩ rfl;refine⟨y,H',iQ (anY _ _ _ ?_),by simpa using g⟩;have:(8*((8:Nat):Int)-8)=56:=rfl;rw [this] at d;simp only [ahi,d]
end
end Go.Proofs.YtljogojaihgdlaaGreat
