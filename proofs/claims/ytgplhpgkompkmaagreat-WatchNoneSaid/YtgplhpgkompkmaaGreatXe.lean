/-
  Own work: an interpreter over named blocks, its soundness, and what the functions of this seat compute (part 5 of 10).
  Conditions: those of the statement alone.
-/
import Derived.Test.YtgplhpgkompkmaaGreatXd
set_option linter.all false
set_option linter.unusedSectionVars false
set_option linter.unusedVariables false
set_option linter.unusedSimpArgs false
namespace Go.Proofs.YtgplhpgkompkmaaGreat
noncomputable section
theorem WM {c:Cfg}(h:c.ok=true)(a:Int):decide (c.bn a≠-1)=(decide (0<=a) && decide (a < c.aG*c.aH)):=by
 have Bd:=uo h;have hw:=Bd.aH;by_cases h0:0<=a
 ·by_cases h1:a < c.aG*c.aH
  ·have:0<=a / c.aH:=zcv h0 (by omega);have:¬(a < 0∨c.aG*c.aH<=a):=by omega
   simp only [Cfg.bn,Cfg.fK,this,if_false,h0,h1,decide_true,zcn,decide_eq_true_eq];omega
  ·have:a < 0∨c.aG*c.aH<=a:=by omega
   simp [Cfg.bn,Cfg.fK,this,h1]
 ·have:a < 0∨c.aG*c.aH<=a:=by omega
  simp [Cfg.bn,Cfg.fK,this,h0]
theorem OJ(H:ah)(c:Cfg)(h:c.ok=true)(o:Opn):cl 121 [.agg c.av,.agg o.av] H=some (B (c.right o),H):=by
 refine bC rfl rfl (ag1 _ _ _ _) ?_ fP;have hl:=WM h o.addr;have Bd:=uo h;have hm:=wrap_i64 (a:=c.aG*c.aH) (by have:=Bd.fK;omega) (by have:=Bd.fK;omega);rw [Cfg.right,hl];have b1:c.av[1]?=some (I c.aG):=rfl;have b2:c.av[2]?=some (I c.aH):=rfl;by_cases a:1<=o.aS;rotate_left
 ·simp only [Nat.reduceLT,xq_,hq_,xE,aO,Opn.av,a,zaF]
 by_cases b:o.aS<=4;rotate_left
 ·simp only [Nat.reduceLT,xq_,hq_,xE,aO,Opn.av,a,b,zaF,zaG]
 by_cases d:0<=o.addr;rotate_left
 ·simp only [Nat.reduceLT,xq_,hq_,xE,aO,Opn.av,a,b,d,zaF,zaG]
 by_cases e:o.addr < c.aG*c.aH;rotate_left
 ·simp only [Nat.reduceLT,xq_,hq_,xE,aO,Opn.av,b1,b2,a,b,d,e,iT,hm,zaF,zaG]
 by_cases f:o.value=0
 ·simp only [Nat.reduceLT,xq_,hq_,xE,aO,Opn.av,b1,b2,a,b,d,e,f,iT,hm,zbW]
 by_cases g:o.aS=2
 ·simp only [Nat.reduceLT,Int.reduceLE,Int.reduceEq,xq_,hq_,xE,aO,Opn.av,b1,b2,d,e,f,g,iT,hm,zbW,zbK]
 by_cases i:o.aS=3
 ·simp only [Nat.reduceLT,Int.reduceLE,Int.reduceEq,xq_,hq_,xE,aO,Opn.av,b1,b2,d,e,f,i,iT,hm,zbK]
 ·simp only [Nat.reduceLT,xq_,hq_,xE,aO,Opn.av,b1,b2,a,b,d,e,f,g,i,iT,hm,zaG,zbK]
def ab7(c:Cfg)(l:List Opn):Bool:=decide (l.length<=24) && l.all c.right
theorem adR(H:ah)(c:Cfg)(h:c.ok=true){x:AV}{ps:List (List Opn)}(hx:Ld H x ps)(hn:ps.length < 1000000000)(hl:∀l∈ps,l.length < 1000000000):cl 77 [.agg c.av,x] H=some (B (c.oZ ps),H):=by
 refine bC rfl rfl (ajZ _ _ _ _) ?_ fP;let H0:=H.guard.new (.blk 0 31 c.av);have n0:H0.next=H.next+1:=rfl
 have hx1:=hx.fU (H':=H0) (by rw [n0];omega) λr hr=> by simp only [H0];rw [bg (by rw [yw];exact hr),X3]
 -- what a memory is that has gone on from there
 have keep:∀{H1:ah},H0.next<=H1.next->(∀r,r < H0.next->H1.get r=H0.get r)->Ld H1 x ps/\lda 8 (.ref H.next 0 0) H1=some (.agg c.av,H1)/\ld (.ref H.next 0 0) H1=some (I c.au,H1):=by
  intro H1 a b;have g:H1.get H.next=.blk 0 31 c.av:=by rw [b _ (by omega)];exact aK rfl
  exact⟨hx1.fU a b,eX g,by rw [dA g];rfl⟩
 have l0:c.av[0]?=some (I c.au):=rfl;obtain⟨alb,x0,_⟩:=hx1;have e1:=x0.lnS;by_cases hc:(ps.length:Int)=c.au;rotate_left
 ·simp only [H0] at e1;simp only [Nat.reduceLT,xq_,hq_,ado,aO (dI c),e1,l0,hc,Cfg.oZ,zb6,zaB]
 -- the operations of one program
 have inner:∀(i:Nat) (l:List Opn),ps[i]?=some l->l.length < 1000000000->∀k j,j+k=l.length->(l.take j).all c.right=true->∀H1:ah,H.next<=H1.base->H0.next<=H1.next->(∀r,r < H0.next->H1.get r=H0.get r)->H1.base<=H1.next->∀(u v:AV),aA H0 v 3 l.length (l.flatMap Opn.av)->
   (l.all c.right=false->(sZ cl [.ref H.next 0 0,x,I ps.length,I i,v,I l.length,I j] H1).map Prod.fst=some (B false))/\
   (l.all c.right=true->∃H2,H.next<=H2.base/\H0.next<=H2.next/\(∀r,r < H0.next->H2.get r=H0.get r)/\H2.base<=H2.next/\sZ cl [.ref H.next 0 0,x,I ps.length,I i,v,I l.length,I j] H1=yX cl [.ref H.next 0 0,x,I ps.length,I (i+1:Nat)] H2):=by
  intro i l hi hll k;have hip:i < ps.length:=(zah.1 hi).1
  induction k with
  | zero=>
   intro j hj hall H1 b0 b1 b2 b3 u v hv;have h1:¬(j:Int) < l.length:=by omega
   have hal:l.all c.right=true:=by rw [zau (by omega)] at hall;exact hall
   have h6:(i:Int)+1=((i+1:Nat):Int):=by omega
   have h7:=wrap_i64 (a:=((i+1:Nat):Int)) (by omega) (by omega);refine⟨λh=> (by rw [hal] at h;cases h),λ_=> ⟨H1,b0,b1,b2,b3,?_⟩⟩;rw [Oo];simp only [Nat.reduceAdd,aP,xq_,hq_,h1,dB,h6,h7]
  | succ k ih=>
   intro j hj hall H1 b0 b1 b2 b3 u v hv;have h1:(j:Int) < l.length:=by omega
   have hv1:=hv.fU (H':=H1) b1 λr _ hr=> b2 r hr;have h3:=hv1.ix (k:=.i64) (i:=(j:Int)) (by omega) h1;rw [zao] at h3;obtain⟨o,ho⟩:∃o,l[j]?=some o:=⟨_,zab (by omega)⟩
   have h4:=xI dR hv1 ho;obtain⟨_,k2,_⟩:=keep b1 b2;have h5:=λH=> OJ H c h o;have lt0:H.next < H1.next:=by omega
   have h6:(j:Int)+1=((j+1:Nat):Int):=by omega
   have h7:=wrap_i64 (a:=((j+1:Nat):Int)) (by omega) (by omega);have hz:H1.base<=H1.next:=b3
   cases hr:c.right o with
   | false=>
    have hal:l.all c.right=false:=by
     rw [zdm];exact⟨o,zat ho,by simp [hr]⟩
    refine⟨λ_=> ?_,λh=> (by rw [hal] at h;cases h)⟩;rw [Oo];simp only [Nat.reduceAdd,aP,xq_,hq_,h1,h3,h4,k2,h5,lt0,hr,hz,zaB]
   | true=>
    have akm:(l.take (j+1)).all c.right=true:=by
     rw [zcS,ho,za1,hall];simp [hr]
    have key:=ih (j+1) (by omega) akm (H1.new (.blk 0 61 o.av)) b0 (zbs b1) (λr hr=> by rw [bg (by omega)];exact b2 r hr) (zbs b3) u v hv;have step:sZ cl [.ref H.next 0 0,x,I ps.length,I i,v,I l.length,I j] H1=sZ cl [.ref H.next 0 0,x,I ps.length,I i,v,I l.length,I (j+1:Nat)] (H1.new (.blk 0 61 o.av)):=by
     rw [Oo];simp only [Nat.reduceAdd,aP,xq_,hq_,h1,h3,h4,k2,h5,lt0,hr,hz,zar,dB,h6,h7]
    rw [step];exact key
 have outer:∀k i,i+k=ps.length->(ps.take i).all (ab7 c)=true->∀H1:ah,H.next<=H1.base->H0.next<=H1.next->(∀r,r < H0.next->H1.get r=H0.get r)->H1.base<=H1.next->(yX cl [.ref H.next 0 0,x,I ps.length,I i] H1).map Prod.fst=some (B (ps.all (ab7 c))):=by
  intro k
  induction k with
  | zero=>
   intro i hi hall H1 b0 b1 b2 b3;have h1:¬(i:Int) < ps.length:=by omega
   rw [zau (by omega)] at hall;rw [hall,IX];simp only [xq_,h1]
  | succ k ih=>
   intro i hi hall H1 b0 b1 b2 b3;have h1:(i:Int) < ps.length:=by omega
   obtain⟨⟨cells,x1,x2⟩,_,_⟩:=keep b1 b2;have hcl:cells.length=ps.length:=by have:=x1.1;omega
   have h3:=x1.ix (k:=.i64) (i:=(i:Int)) (by omega) h1;rw [zao] at h3;obtain⟨v,hv⟩:∃v,cells[i]?=some v:=⟨_,zab (by omega)⟩
   obtain⟨l,hpl⟩:∃l,ps[i]?=some l:=⟨_,zab (by omega)⟩
   have h4:=x1.ld (i:=i) (by omega);rw [hv] at h4;obtain⟨y1,_⟩:=x2 i v l hv hpl;have h5:=y1.lnS;have hll:=hl l (zat hpl)
   -- the same slice,at first
   have y0:aA H0 v 3 l.length (l.flatMap Opn.av):=by
    obtain⟨⟨cells',z1,z2⟩,_,_⟩:=keep (H1:=H0) (zac _) λ_ _=> rfl;have hv':cells'[i]?=some v:=by
     have:=(z1.fU (H':=H1) b1 λr _ hr=> b2 r hr).ld (i:=i) (by omega);rw [h4] at this;cases hc':cells'[i]? with
     | none=> rw [hc'] at this;cases this
     | some w=> rw [hc'] at this;simp only [zaf,zaa,zad,and_true] at this;rw [this]
    exact(z2 i v l hv' hpl).1
   by_cases hlen:l.length<=24
   ·have h24:¬(24:Int) < l.length:=by omega
    have:=inner i l hpl hll l.length 0 (by omega) (by simp) H1 b0 b1 b2 b3 v v y0;cases hr:l.all c.right with
    | false=>
     have hal:ps.all (ab7 c)=false:=by
      rw [zdm];exact⟨l,zat hpl,by simp [ab7,hr]⟩
     have t:=this.1 hr;rw [hal,IX];simp only [xq_,h1,h3,h4,h5,h24];exact t
    | true=>
     obtain⟨H2,c0,c1,c2,c3,t⟩:=this.2 hr;have:=ih (i+1) (by omega) (by rw [zcS,hpl,za1,hall];simp [ab7,hlen,hr]) H2 c0 c1 c2 c3;rw [IX];simp only [xq_,h1,h3,h4,h5,h24];have t':sZ cl [.ref H.next 0 0,x,I ps.length,I i,v,I l.length,I 0] H1=yX cl [.ref H.next 0 0,x,I ps.length,I (i+1:Nat)] H2:=t;rw [t'];exact this
   ·have h24:(24:Int) < l.length:=by omega
    have hal:ps.all (ab7 c)=false:=by
     rw [zdm];exact⟨l,zat hpl,by simp [ab7,hlen]⟩
    rw [hal,IX];simp only [xq_,h1,h3,h4,h5,h24]
 have fin:=outer ps.length 0 (by omega) (by simp) H0 (zac _) (zac _) (λ_ _=> rfl) (by rw [n0];show H.next<=_;omega);have eo:c.oZ ps=ps.all (ab7 c):=by simp only [Cfg.oZ,hc,decide_true,zco];rfl
 rw [eo];simp only [H0] at e1 fin;simp only [Nat.reduceLT,xq_,hq_,ado,aO (dI c),e1,l0,hc];rw [<-hc];exact fin
theorem adS {β:Type}{w:Option Nat}{H H':ah}{k:Option β}(h:∀r,w=some r->H'.get r=H.get r):ck w H H' k=k:=if_pos h
theorem y8 {H1:ah}{n d m k:Nat}{x:AV}{cells:List AV}(c:Own n H1 x m cells)(hm:0 < m)(hl:cells.length=k*m)(hz:∀y∈cells,bD H1 n d y=some y)(hk:k≠0):bD H1 n (d+1) x=some (.vs k m cells):=by
 rcases c with⟨rfl,rfl⟩ | ⟨r,g,off,n',cap,ex,ty,all,rfl,k2,k3,k4,k5,k6,k7,rfl⟩
 ·simp only [zak] at hl;rcases zcK.1 hl.symm with h | h <;> omega
 ·have hcm:n'*m<=cap*m:=zaz _ k4;rw [zav,zaQ,zbh (by omega)] at hl;have:n'=k:=zbQ hm hl;subst this;exact jW k2 (cells:=(all.drop off).take (n'*m)) (by simp only [bI,k5];rw [if_pos ⟨trivial,by omega⟩]) (gQ _ hz)
theorem Ls {c:Cfg}{aj:Int}(h0:0<=aj)(h1:aj < c.aG){i:Nat}(hi:i < c.aH.toNat):(c.first aj)[i]?=some (c.init.getD ((aj*c.aH).toNat+i) 0):=by
 unfold Cfg.first
 rw [if_neg (by omega),zas,zbr hi];rfl
theorem xO {c:Cfg}{aj:Int}(h0:0<=aj)(h1:aj < c.aG):(c.first aj).length=c.aH.toNat:=by
 unfold Cfg.first
 rw [if_neg (by omega)];simp
theorem Tf(H:ah)(c:Cfg)(h:c.ok=true)(aj:Int)(h0:0<=aj)(h1:aj < c.aG):cl 173 [.agg c.av,I aj] H=some (dat (c.first aj),H):=by
 have Bd:=uo h;have hw:=Bd.aH;have hlw:0<=aj*c.aH:=zbT h0 (by omega);have alE:aj*c.aH<=8*4:=zbL (by have:=Bd.aG;omega) hw.2 (by omega) (by omega);have w:=wrap_i64 (a:=aj*c.aH) (by omega) (by omega);let H0:=H.guard.new (.blk 0 31 c.av);have g0:H0.get H.next=.blk 0 31 c.av:=aK rfl
 have key:∀k i,i+k=c.aH.toNat->∀(H1:ah) (x:AV),H.next<=H1.next->H1.base=H.next->H1.get H.next=.blk 0 31 c.av->Own (H.next+1) H1 x 1 (((c.first aj).take i).map I)->H.next+1<=H1.next->
   ∃H2 y,Bl cl [I aj,.ref H.next 0 0,x,I i] H1=some (y,H2)/\Own (H.next+1) H2 y 1 ((c.first aj).map I):=by
  intro k
  induction k with
  | zero=>
   intro i hi H1 x n1 b1 g1 O n2;have l2:ld (.ref H.next 0 2) H1=some (I c.aH,H1):=by rw [dA g1];rfl
   have hn:¬(i:Int) < c.aH:=by omega
   rw [zau (by rw [xO h0 h1];omega)] at O;refine⟨H1,x,?_,O⟩;rw [QI];simp only [xq_,l2,hn]
  | succ k ih=>
   intro i hi H1 x n1 b1 g1 O n2;have l2:ld (.ref H.next 0 2) H1=some (I c.aH,H1):=by rw [dA g1];rfl
   have l7:ld (.ref H.next 0 7) H1=some (dat c.init,H1):=by rw [dA g1];rfl
   have hn:(i:Int) < c.aH:=by omega
   have e1:=(gW H1 c.init).lnS;have w2:=wrap_i64 (a:=aj*c.aH+i) (by omega) (by omega);have h6:(i:Int)+1=((i+1:Nat):Int):=by omega
   have h7:=wrap_i64 (a:=((i+1:Nat):Int)) (by omega) (by omega);have hg:=Ls (c:=c) (aj:=aj) h0 h1 (i:=i) (by omega);have tail:∀v:Int,v=c.init.getD ((aj*c.aH).toNat+i) 0->∃H2 y,Bo cl (I aj) (.ref H.next 0 0) x (I i) (I v) H1=some (y,H2)/\Own (H.next+1) H2 y 1 ((c.first aj).map I):=by
    intro v hv;have eb:bs 22 1 [(0,I v)] H1=some (.sl H1.next 0 0 1 1 1 true,H1.new (.blk 0 3 [I v])):=(NU (by decide)).trans (nT rfl rfl rfl);obtain⟨x',H2,a1,a2,a3⟩:=(O.new (.blk 0 3 [I v])).step (n:=i) (k:=1) (e:=3) (by_:=8) (y:=.sl H1.next 0 0 1 1 1 true) (new:=[I v]) (by rw [fC];omega) (by rw [oD,b1];omega) (by decide) (by rw [zay,zav,xO h0 h1];omega) (mJ rfl) rfl (by unfold most;omega) (by unfold most;omega);have O2:Own (H.next+1) H2 x' 1 (((c.first aj).take (i+1)).map I):=by
     rw [zcS,hg,zbb];rw [hv] at a2;exact a2
    obtain⟨H3,y,r1,r2⟩:=ih (i+1) (by omega) H2 x' (by have:=a3.next;rw [fC] at this;omega) (by rw [a3.base,oD,b1]) (by rw [a3.low _ (by omega),bg (by omega),g1]) O2 (by have:=a3.next;rw [fC] at this;omega);refine⟨H3,y,?_,r2⟩;simp only [xq_,Bo,eb,a1,dB,h6,h7,r1]
   rw [QI];by_cases hc:aj*c.aH+i < c.init.length
   ·have e2:=(gW H1 c.init).ix (k:=.i64) (i:=aj*c.aH+i) (by omega) hc;have e3:=(gW H1 c.init).ld (i:=(aj*c.aH+i).toNat) (by omega);have e4:(c.init.map I)[(aj*c.aH+i).toNat]?=some (I (c.init.getD ((aj*c.aH).toNat+i) 0)):=by
     have:(aj*c.aH+i).toNat=(aj*c.aH).toNat+i:=by omega
     rw [this,zas,zab (by omega)];simp [List.getD,zab (show(aj*c.aH).toNat+i < c.init.length by omega)]
    rw [e4] at e3;obtain⟨H2,y,r1,r2⟩:=tail _ rfl;refine⟨H2,y,?_,r2⟩;simp only [xq_,l2,hn,iT,w,dB,w2,l7,e1,hc,e2,e3,r1]
   ·obtain⟨H2,y,r1,r2⟩:=tail 0 (by
     have:c.init.length<=(aj*c.aH).toNat+i:=by omega
     simp [List.getD,zaN this])
    refine⟨H2,y,?_,r2⟩;simp only [xq_,l2,hn,iT,w,dB,w2,l7,e1,hc,r1]
 obtain⟨H2,y,r1,r2⟩:=key c.aH.toNat 0 (by omega) H0 zN (by show H.next<=H.next+1;omega) rfl g0 (.inl ⟨rfl,by simp⟩) (zac _);refine iJ rfl rfl (ahm _ _ _ _ (r:=(y,H2)) ?_) ?_
 ·have n0:¬aj < 0:=by omega
  have n1:¬c.aG<=aj:=by omega
  have l1:c.av[1]?=some (I c.aG):=rfl;simp only [Nat.reduceLT,xq_,hq_,abI,aO (dI c),n0,n1,l1];exact r1
 ·rw [tq (Jc h h0 h1)];have r3:Own H.next H2 y 1 ((c.first aj).map I):=by
   rcases r2 with r2 | ⟨r,g,off,n,cap,ex,ty,all,a0,a1,a2⟩
   ·exact .inl r2
   ·exact .inr ⟨r,g,off,n,cap,ex,ty,all,a0,by omega,a2⟩
  exact y8 r3 (by decide) (by simp) (λy hy=> qV _ y hy _ _) (λe=> Jc h h0 h1 (zan e))
theorem WO(H:ah)(sets ways:Int)(h:1<=sets)(h':1<=ways):∃H' q,cl 122 [I sets,I ways] H=some (.ref q 0 0,H')/\Made H H' (upd mM q (yQ ⟨[],sets,ways,0⟩ [])):=by
 refine⟨_,H.next,dU rfl rfl (ag2 _ _ _ _ (r:=(_,H.new (.blk 0 265 [I sets,I ways,zI,zN]))) ?_),jv rfl rfl λi c x hc hx=> ?_⟩
 ·have e:max sets (1:Int)=sets:=by omega
  have e':max ways (1:Int)=ways:=by omega
  simp only [Nat.reduceLT,Nat.reduceAdd,Nat.reduceLeDiff,aP,xq_,hq_,abg,Ib,e,e',afA,lD,fV,aas,aO]
 ·match i with
  | 0=> left;cases hc;cases hx;rfl
  | 1=> left;cases hc;cases hx;rfl
  | 2=> left;cases hc;cases hx;rfl
  | 3=> right;cases hc;cases hx;exact⟨rfl,6,rfl⟩
  | i+4=> cases hc
theorem adT(H:ah)(c:Cfg)(h:c.ok=true):∃H' f,cl 78 [.agg c.av] H=some (.ref f 0 0,H')/\Made H H' (upd mM f (SN c (List.replicate (4*c.au.toNat) []))):=by
 have Bd:=uo h;have hn:=Bd.au;let H1:=H.new (.blk 0 31 c.av);let H2:=H1.new (.blk 0 350 (dh [zN,zN,zN,zN] c.au.toNat));let S:AV:=.sl (H.next+1) 0 0 4 c.au.toNat c.au.toNat true;let H3:=H2.new (.blk 0 206 (c.av++[S]));have e1:=Vt (e:=350) (m:=4) (by_:=96) (z:=[zN,zN,zN,zN]) (n:=c.au) (H:=H1) rfl rfl (by omega) (by omega) (by decide);have l0:c.av[0]?=some (I c.au):=rfl;have zl:∀n,(dh [zN,zN,zN,zN] n).length=n*4/\∀(j:Nat) x,(dh [zN,zN,zN,zN] n)[j]?=some x->x=zN:=by
  intro n
  induction n with
  | zero=> exact⟨rfl,λj x hx=> by simp [dh] at hx⟩
  | succ n ih=>
   refine⟨by rw [dh,zal,ih.1];simp;omega,λj x hx=> ?_⟩;rw [dh] at hx;have:=zat hx;rcases zaO.1 this with hm | hm
   ·simpa using hm
   ·obtain⟨k,hk,hk2⟩:=zc8 hm;exact ih.2 k x (by rw [zab hk,hk2])
 refine⟨H3,H.next+2,dU rfl rfl (aj1 _ _ _ (r:=(_,H3)) ?_),⟨by show H.next<=H.next+3;omega,rfl,λr hr=> ?_,by show H.next<=H.next+3;omega,λr=> if r=H.next+2 then some (r,0,0,0) else if r=H.next+1 then some (H.next+2,9,0,0) else none,λq cs hq=> ?_⟩⟩
 ·have e:bd 206 [(0,.agg c.av),(1,S)]=some (.agg (c.av++[S])):=by
   simp only [xq_,afw,lD,fV,aao,Cfg.av,eH];rfl
  have ea:(c.av++[S]).all AV.aJ=true:=by rw [za1,dI];rfl
  have e0:=eX (H:=H1) (r:=H.next) (c:=c) (aK rfl);have s1:H1.next=H.next+1:=rfl
  simp only [s1] at e1;simp only [H1] at e1 e0;simp only [Nat.reduceLT,xq_,hq_,agD,aO (dI c),l0,e1,e,aO ea,S];rfl
 ·simp only [H3,H2,H1];rw [bg (by simp only [fC];omega),bg (by simp only [fC];omega),bg hr]
 ·unfold upd at hq;split at hq
  ·rename_i e;subst e;cases hq;refine⟨by simp,by omega,by show _ < H.next+3;omega,sJ (ty:=206) (xs:=c.av++[S]) (aK rfl) (by decide),206,c.av++[S],aK rfl,by simp [SN,Cfg.av],by rw [za1,dI];rfl,λi cc x hc hx=> ?_⟩;rcases zaP i 8 with hi | hi
   ·rw [SN,zaE (by simp [Cfg.av];omega),zas] at hc;rw [zaE (by simp [Cfg.av];omega)] at hx;rw [hx] at hc;cases hc;exact rfl
   ·have hi8:i=8:=by
     have:=(zah.1 hx).1;simp [Cfg.av] at this;omega
    subst hi8;cases hc;cases hx;refine⟨dh [zN,zN,zN,zN] c.au.toNat,.inr ⟨H.next+1,0,0,c.au.toNat,c.au.toNat,true,350,_,rfl,by simp,by omega,by show _ < H.next+3;omega,zac _,by simp only [H3];rw [bg (by show _ < H.next+2;omega)];exact aK rfl,by rw [(zl _).1];omega,yM rfl _,?_⟩,by rw [(zl _).1,zcc];omega,λj cells y hj hy=> ?_⟩
    ·rw [zaM,zau (by rw [(zl _).1];omega)]
    ·rw [zbn] at hj;split at hj
     ·cases hj;exact .inl ⟨(zl _).2 _ _ hy,rfl⟩
     ·cases hj
  ·cases hq
def iO(c:Cfg)(n:Nat):List Row:=(List.range n).map λ(i:Nat)=> (⟨0,-1,c.first (i:Int)⟩:Row)
theorem OQ(c:Cfg)(n:Nat):iO c (n+1)=iO c n++[⟨0,-1,c.first n⟩]:=by
 simp [iO,zbV]
theorem WQ(H:ah)(hb:H.base<=H.next)(c:Cfg)(h:c.ok=true)(me:Int):∃H' q,cl 123 [.agg c.av,I me] H=some (.ref q 0 0,H')/\Made H H' (upd mM q (mX c me ((fF.new c).dF.flatMap Row.av) ⟨[],[]⟩)):=by
 have Bd:=uo h;have hl:=Bd.aG;let H1:=H.new (.blk 0 31 c.av);let xs:List AV:=c.av++[I me,zN,zN,zN]
 let H2:=H1.new (.blk 0 272 xs);let f:=H.next+1
 have ax:xs.all AV.aJ=true:=by simp only [xs,za1,dI];rfl
 have M0:Made H1 H2 (upd mM f (mX c me [] ⟨[],[]⟩)):=jv ax (by simp [xs,mX]) λi cc x hc hx=> by
  rcases zaP i 8 with hi | hi
  ·left;rw [mX,zaE (by simp [Cfg.av];omega),zas] at hc;rw [zaE (by simp [Cfg.av];omega)] at hx;rw [hx] at hc;exact(zaT hc).symm
  ·obtain⟨j,rfl⟩:∃j,i=8+j:=⟨i - 8,by omega⟩
   match j with
   | 0=> left;cases hc;cases hx;rfl
   | 1=> right;cases hc;cases hx;exact⟨rfl,3,rfl⟩
   | 2=> right;cases hc;cases hx;exact⟨rfl,2,rfl⟩
   | 3=> right;cases hc;cases hx;exact⟨rfl,3,rfl⟩
   | j+4=> exfalso;have:=(zah.1 hx).1;simp [xs,Cfg.av] at this;omega
 have key:∀k i,i+k=c.aG.toNat->∀Hi,Made H1 Hi (upd mM f (mX c me ((iO c i).flatMap Row.av) ⟨[],[]⟩))->
   ∃H',AZ cl [.ref H.next 0 0,.ref f 0 0,I i] Hi=some (.ref f 0 0,H')/\Made H1 H' (upd mM f (mX c me ((iO c c.aG.toNat).flatMap Row.av) ⟨[],[]⟩)):=by
  intro k
  induction k with
  | zero=>
   intro i hi Hi M;have h1:¬(i:Int) < c.aG:=by omega
   have g:Hi.get H.next=.blk 0 31 c.av:=by rw [M.same _ (by show H.next < H.next+1;omega)];exact aK rfl
   have l1:ld (.ref H.next 0 1) Hi=some (I c.aG,Hi):=by rw [dA g];rfl
   rw [Qz];refine⟨Hi,?_,by rw [show c.aG.toNat=i by omega];exact M⟩;simp only [Int.reduceNeg,xq_,l1,h1]
  | succ k ih=>
   intro i hi Hi M;have h1:(i:Int) < c.aG:=by omega
   have h6:(i:Int)+1=((i+1:Nat):Int):=by omega
   have h7:=wrap_i64 (a:=((i+1:Nat):Int)) (by omega) (by omega);have n1:H1.next=H.next+1:=rfl
   have g:Hi.get H.next=.blk 0 31 c.av:=by rw [M.same _ (by omega)];exact aK rfl
   have l1:ld (.ref H.next 0 1) Hi=some (I c.aG,Hi):=by rw [dA g];rfl
   have l8:=eX g;obtain⟨x,hx,cx⟩:=M.good.seq aY (i:=9) rfl;have e1:=Tf Hi.guard c h i (by omega) h1;let r:Row:=⟨0,-1,c.first i⟩
   have hlen:((iO c i).flatMap Row.av).length=i*3:=by rw [dX yJ];simp [iO]
   have eb:=nT (e:=274) (m:=3) (z:=[zI,zI,zN]) (v:=.agg r.av) (H:=Hi) rfl rfl (Dt r);simp only [eH] at eb;obtain⟨x',He,Hf,t1,t2,t3,t4⟩:=(M.good.new (.blk 0 274 r.av)).append (e:=274) (by_:=40) (by rw [oD,M.base,n1];simp only [H1,oD];omega) aY (i:=9) rfl (by decide) hlen (cx.new _) (mJ (ex:=true) (n:=1) (m:=3) (l:=r.av) rfl) (Dt r) (by unfold most;omega) (by unfold most;omega);have Mf:Made H1 Hf (upd mM f (mX c me ((iO c (i+1)).flatMap Row.av) ⟨[],[]⟩)):=by
    refine((M.new _).step t3 t4).as ?_;rw [Di,OQ,zb4]
    congr 1
   obtain⟨H',r1,r2⟩:=ih (i+1) (by omega) Hf Mf;refine⟨H',?_,r2⟩;rw [Qz];have er:bd 274 [(0,I 0),(1,I (-1)),(2,dat (c.first i))]=some (.agg r.av):=by
    simp only [Int.reduceNeg,xq_,afC,lD,fV,aau,Dl];rfl
   simp only [Int.reduceNeg,Nat.reduceLeDiff,xq_,hq_,l1,h1,hx,l8,e1,er,afb,zch,eb,t1,t2,dB,h6,h7,r1]
 obtain⟨H',r1,r2⟩:=key c.aG.toNat 0 (by omega) H2 M0;refine⟨H',f,dU rfl rfl (ag3 _ _ _ _ (r:=(_,H')) ?_),r2.uU⟩;have e:bd 272 [(0,.agg c.av),(1,I me)]=some (.agg xs):=by
  simp only [xq_,afB,lD,fV,aat,Cfg.av,eH];rfl
 have e0:=eX (H:=H1) (r:=H.next) (c:=c) (aK rfl);simp only [H1] at e0;simp only [Nat.reduceLT,xq_,hq_,abj,aO (dI c),e0,e,aO ax];exact r1
theorem adU {H:ah}{v:AV}{l:List Opn}(hv:aA H v 3 l.length (l.flatMap Opn.av))(hl:l.length < 1000000):
  ∃y H',app 61 3 24 zN v H=some (y,H')/\Own H.next H' y 3 (l.flatMap Opn.av)/\Step H.next H H':=by
 have O:Own H.next H zN 3 []:=.inl ⟨rfl,rfl⟩
 have hz:most=most:=rfl;obtain⟨c1,c2⟩:=hv.uQ;by_cases h0:l=[]
 ·subst h0;refine⟨zN,H,?_,.inl ⟨rfl,rfl⟩,Step.refl _ _⟩;simp only [app,c1,c2,dD];rfl
 ·have hn:l.length≠0:=λe=> h0 (zan e);refine⟨_,_,N9 hv (AU qR l) hn (by unfold most;omega) (by unfold most;omega),.inr ⟨H.next,0,0,l.length,l.length,false,61+gB,l.flatMap Opn.av,rfl,zac _,by rw [fC];omega,zac _,aK rfl,by rw [dX dR];omega,AU qR l,?_⟩,Step.new _ (zac _)⟩;rw [zaM,zau (by rw [dX dR];exact zac _)]
theorem Zh {H H1:ah}{ty:TypeId}{xs:List AV}{cs:List Cell}{i0 m0:Nat}{l0:List AV}{y:AV}(s:Step H.next H H1)(hc:xs.all AV.aJ=true)(hl:xs.length=cs.length)(O:Own H.next H1 y m0 l0)
  (h:∀(i:Nat) (c:Cell) (x:AV),cs[i]?=some c->xs[i]?=some x->c=.av x∨(x=zN/\∃m,c=.seq m [])∨(i=i0/\x=y/\c=.seq m0 l0)) (ht:ty < gB:=by decide):
  Made H (H1.new (.blk 0 ty xs)) (upd mM H1.next cs):=by
 have n1:=s.next
 refine⟨by rw [fC];omega,s.base,λr hr=> by rw [bg (by omega),s.low r hr],by rw [fC];omega,λr=> if r=H1.next then some (r,0,0,0) else if jO y=some r then some (H1.next,i0+1,0,0) else none,λq cs' hq=> ?_⟩;unfold upd at hq;split at hq
 ·rename_i e;subst e;cases hq;refine⟨by simp,n1,by rw [fC];omega,sJ (xs:=xs) (aK rfl) ht,ty,xs,aK rfl,hl,hc,λi c x hci hx=> ?_⟩;rcases h i c x hci hx with rfl | ⟨rfl,m,rfl⟩ | ⟨rfl,rfl,rfl⟩
  ·exact rfl
  ·exact .inl ⟨rfl,rfl⟩
  ·rcases O with O | ⟨r,g,off,n,cap,ex,ty',all,rfl,k2,k3,k4,k5,k6⟩
   ·exact .inl O
   ·exact .inr ⟨r,g,off,n,cap,ex,ty',all,rfl,by simp only [jO];rw [if_neg (by omega),if_pos trivial],k2,by rw [fC];omega,k4,by rw [bg k3];exact k5,k6⟩
 ·cases hq
theorem Zi(H:ah)(c:Cfg)(h:c.ok=true)(me:Int)(l:List Opn)(hl:l.length < 1000000){x:AV}(hx:aA H x 3 l.length (l.flatMap Opn.av)):
  ∃H' a g',cl 79 [.agg c.av,I me,x] H=some (.ref (a 0) 0 0,H')/\Made H H' g'/\lV g' a c me (.new c l):=by
 have Bd:=uo h;let H1:=H.new (.blk 0 31 c.av);obtain⟨H2',q1,e1,M1⟩:=WO H1.guard c.sets c.ways Bd.sets.1 Bd.ways.1;obtain⟨H2,e1,M1⟩:=drawn e1 M1;obtain⟨H3',q2,e2,M2⟩:=WQ H2.guard (zac _) c h me;obtain⟨H3,e2,M2⟩:=drawn e2 M2;have hx3:aA H3 x 3 l.length (l.flatMap Opn.av):=((hx.new (.blk 0 31 c.av)).fU M1.next λr _ hr=> M1.same r hr).fU M2.next λr _ hr=> M2.same r hr
 obtain⟨y,H4,e3,O,s4⟩:=adU hx3 hl;let a:=six H4.next q1 q2 0 0 0
 let xs:List AV:=c.av++[I me,.ref q1 0 0,.ref q2 0 0,y,B false,zN,B false,zI,zI,zI,zI,zI,zI,zN,zI,zI,I 0]
 have hy:One y:=by
  rcases O with⟨rfl,_⟩ | ⟨r,g,off,n,cap,ex,ty',all,rfl,_⟩
  ·exact vK
  ·exact pW
 have ax:xs.all AV.aJ=true:=by simp only [xs,za1,dI,zbR,hy.2];rfl
 have M3:Made H3 (H4.new (.blk 0 213 xs)) (upd mM H4.next (zK a c me (.new c l) [zI,zI,zI,zI,zI,zI,zN,zI,zI])):=by
  refine Zh (i0:=11) (m0:=3) (l0:=l.flatMap Opn.av) (y:=y) s4 ax (by simp [xs,zK]) O λi cc x hc hx=> ?_;rcases zaP i 8 with hi | hi
  ·left;rw [zK,zbl,zbl,zaE (by simp [Cfg.av];omega),zas] at hc;rw [zaE (by simp [Cfg.av];omega)] at hx;rw [hx] at hc;exact(zaT hc).symm
  ·obtain⟨j,rfl⟩:∃j,i=8+j:=⟨i - 8,by omega⟩
   match j with
   | 0 | 1 | 2 | 4 | 6 | 7 | 8 | 9 | 10 | 11 | 12 | 13 | 14 | 15 | 16=> left;cases hc;cases hx;rfl
   | 3=> right;right;cases hc;cases hx;exact⟨rfl,rfl,rfl⟩
   | 5=> right;left;cases hc;cases hx;exact⟨rfl,1,rfl⟩
   | j+17=> exfalso;have:=(zah.1 hx).1;simp [xs,Cfg.av] at this;omega
 have g1:H1.get H.next=.blk 0 31 c.av:=aK rfl
 have l1:H.next < H1.next:=by simp only [H1,fC];omega
 have l2:H.next < H2.next:=zaw l1 M1.next
 have g2:H2.get H.next=.blk 0 31 c.av:=by rw [M1.same _ l1,g1]
 have g3:H3.get H.next=.blk 0 31 c.av:=by rw [M2.same _ l2,g2]
 have l3:H.next < H3.next:=zaw l2 M2.next
 have g4:H4.get H.next=H3.get H.next:=s4.low _ l3
 have b1:=eX g1;have b2:=eX g2;have ec:∀{β:Type} (k:Option β),ck (dO (.ref H.next 0 0)) H3 H4 k=k:=λk=> adS λr hr=> by cases hr;exact g4
 have G12:=M1.good.merge M2;refine⟨_,a,_,dU rfl rfl (aj3 _ _ _ _ _ (r:=(_,H4.new (.blk 0 213 xs))) ?_),((M1.trans M2).trans M3).uU,?_⟩
 ·have e:bd 213 [(0,.agg c.av),(1,I me),(2,.ref q1 0 0),(3,.ref q2 0 0),(4,y)]=some (.agg xs):=by
   simp only [xq_,afx,lD,fV,aap,Cfg.av,eH,hy.1];rfl
  have l3:c.av[3]?=some (I c.sets):=rfl;have l4:c.av[4]?=some (I c.ways):=rfl;simp only [H1] at e1 b1;simp only [Nat.reduceLT,xq_,hq_,agE,aO (dI c),b1,l3,l4,e1,b2,e2,e3,e,aO ax,ec];rfl
 ·have z:vU (ai7 (cup H3.next (cup H2.next (upd mM q1 (yQ ⟨[],c.sets,c.ways,0⟩ [])) (upd mM q2 (mX c me ((fF.new c).dF.flatMap Row.av) ⟨[],[]⟩))) (upd mM H4.next (zK a c me (.new c l) [zI,zI,zI,zI,zI,zI,zN,zI,zI])))) (fF.new c).dF ((fF.new c).dF.flatMap Row.av):=vU.of λr _=> acX r;exact⟨⟨[zI,zI,zI,zI,zI,zI,zN,zI,zI],⟨zN,.inl (by simp [iU.new,dL.zero,dat,jo]),by simp [iU.new,dL.zero,dL.avx]⟩,jZ M3.good aY (zac _)⟩,⟨[],.nil,iW G12 (iW M1.good aY rfl) rfl⟩,⟨_,z,iW G12 (jZ M2.good aY (zac _)) rfl⟩⟩
theorem lV.ald {g:bJ}{a:Nat->Nat}{c:Cfg}{me:Int}{n:iU}(h:lV g a c me n){s:Nat}(hs:s < 3):∃l,g (a s)=some l:=by
 obtain⟨⟨_,_,h0⟩,⟨_,_,h1⟩,⟨_,_,h2⟩⟩:=h
 match s,hs with
 | 0,_=> exact⟨_,h0⟩
 | 1,_=> exact⟨_,h1⟩
 | 2,_=> exact⟨_,h2⟩
theorem lV.ext {g g':bJ}{a:Nat->Nat}{c:Cfg}{me:Int}{n:iU}(h:lV g a c me n)(hd:∀q cs,g q=some cs->¬SL cs->g' q=some cs)(hg:∀s,s < 3->g' (a s)=g (a s)):lV g' a c me n:=by
 obtain⟨⟨d,⟨x,d1,d2⟩,h0⟩,⟨cells,k,h1⟩,⟨dF,r,h2⟩⟩:=h;exact⟨⟨d,⟨x,d1.sub hd,d2⟩,by rw [hg 0 (by omega),h0]⟩,⟨cells,k.mono λe cs _ ⟨x,e1,e2⟩=> ⟨x,e1.sub hd,e2⟩,by rw [hg 1 (by omega),h1]⟩,⟨dF,r.mono λe cs _ ⟨x,e1,e2⟩=> ⟨x,e1.sub hd,e2⟩,by rw [hg 2 (by omega),h2]⟩⟩
theorem lV.inj {g:bJ}{a:Nat->Nat}{c:Cfg}{me:Int}{n:iU}(h:lV g a c me n){s t:Nat}(hs:s < 3)(ht:t < 3)(e:a s=a t):s=t:=by
 obtain⟨⟨d,⟨x,_,rfl⟩,h0⟩,⟨_,_,h1⟩,⟨_,_,h2⟩⟩:=h;have hh:(g (a s)).map List.length=(g (a t)).map List.length:=by rw [e]
 match s,hs,t,ht with
 | 0,_,0,_ | 1,_,1,_ | 2,_,2,_=> rfl
 | 0,_,1,_ | 0,_,2,_ | 1,_,0,_ | 1,_,2,_ | 2,_,0,_ | 2,_,1,_=> simp [h0,h1,h2,zK,yQ,mX,dL.avx,Cfg.av] at hh
theorem lV.lens {g:bJ}{a:Nat->Nat}{c:Cfg}{me:Int}{n:iU}(h:lV g a c me n){s:Nat}(hs:s < 3):∃l,g (a s)=some l/\SL l/\(l.length=25∨l.length=4∨l.length=12):=by
 obtain⟨⟨d,⟨x,_,rfl⟩,h0⟩,⟨_,_,h1⟩,⟨_,_,h2⟩⟩:=h
 match s,hs with
 | 0,_=> exact⟨_,h0,⟨.av (.ref (a 1) 0 0),by simp [zK],λn e=> by cases e⟩,by left;simp [zK,dL.avx,Cfg.av]⟩
 | 1,_=> exact⟨_,h1,⟨.seq 6 _,by simp [yQ];rfl,λn e=> by cases e⟩,by right;left;simp [yQ]⟩
 | 2,_=> exact⟨_,h2,⟨.seq 3 _,by simp [mX];left;rfl,λn e=> by cases e⟩,by right;right;simp [mX,Cfg.av]⟩
theorem Ti {f:Nat}{N:Nat->Nat->Nat}{c:Cfg}{n:Nat}{ev:List Evn}:SL (nU f N c n ev):=⟨.av (.ref f 0 0),by simp [nU],λn e=> by cases e⟩
theorem OT(H:ah)(hb:H.base<=H.next)(c:Cfg)(h:c.ok=true){x:AV}{ps:List (List Opn)}(hx:Ld H x ps)(hp:c.oZ ps=true):
  ∃H' q f N g',cl 35 [.agg c.av,x] H=some (.tup [.ref q 0 0,B true],H')/\Made H H' g'/\Dx g' q f N (.new c ps):=by
 have Bd:=uo h;obtain⟨hp1,hp2⟩:=xM hp;have hn:=Bd.au;let H1:=H.new (.blk 0 31 c.av);have n1:H1.next=H.next+1:=rfl
 have g1:H1.get H.next=.blk 0 31 c.av:=aK rfl
 have b1:=eX g1;have e1:=WL H1 c;rw [h] at e1;have e2:=adR H1 c h (hx.fU (H':=H1) (by omega) λr hr=> bg hr) (by omega) λl hl=> by have:=hp2 l hl;omega
 rw [hp] at e2;obtain⟨H2',f,e4,M1⟩:=adT H1.guard c h;obtain⟨H2,e4,M1⟩:=drawn e4 M1;let K:=H2.next
 let xs:List AV:=c.av++[.ref f 0 0,zN,zN]
 have hall:xs.all AV.aJ=true:=by simp only [xs,za1,dI];rfl
 have bx:∀H':ah,(∀r,r < H1.next->H'.get r=H1.get r)->H'.get H.next=.blk 0 31 c.av:=λH' hs=> by rw [hs _ (by omega),g1]
 have M2:Made H2 (H2.new (.blk 0 157 xs)) (upd mM K (nU f (λ_ _=> 0) c 0 [])):=by
  refine jv hall (by simp [xs,nU]) λi cc y hc hy=> ?_;rcases zaP i 8 with hi | hi
  ·left;rw [nU,zaE (by simp [Cfg.av];omega),zas] at hc;rw [zaE (by simp [Cfg.av];omega)] at hy;rw [hy] at hc;exact(zaT hc).symm
  ·obtain⟨j,rfl⟩:∃j,i=8+j:=⟨i - 8,by omega⟩
   match j with
   | 0=> left;cases hc;cases hy;rfl
   | 1=> right;cases hc;cases hy;exact⟨rfl,1,rfl⟩
   | 2=> right;cases hc;cases hy;exact⟨rfl,4,rfl⟩
   | j+3=> exfalso;have:=(zah.1 hy).1;simp [xs,Cfg.av] at this;omega
 have M0:=M1.add M2;let g0:=upd (upd mM f (SN c (List.replicate (4*c.au.toNat) []))) K (nU f (λ_ _=> 0) c 0 []);have key:∀k i,i+k=ps.length->∀Hi gi N,Made H1 Hi gi->gi K=some (nU f N c i [])->(∀q,q < K->gi q=g0 q)->(∀(j:Nat) l,j < i->ps[j]?=some l->lV gi (N j) c j (.new c l))->ai9 N i->
   ∃H' g' N',IQ cl [x,.ref H.next 0 0,.ref K 0 0,I i] Hi=some (.tup [.ref K 0 0,B true],H')/\Made H1 H' g'/\g' K=some (nU f N' c ps.length [])/\(∀q,q < K->g' q=g0 q)/\(∀(j:Nat) l,j < ps.length->ps[j]?=some l->lV g' (N' j) c j (.new c l))/\ai9 N' ps.length:=by
  intro k
  induction k with
  | zero=>
   intro i hi Hi gi N M hm hlow hnd hj;have l0:ld (.ref H.next 0 0) Hi=some (I c.au,Hi):=by rw [dA (bx Hi M.same)];rfl
   have h1:¬(i:Int) < c.au:=by omega
   have hi':ps.length=i:=by omega
   rw [VK];refine⟨Hi,gi,N,?_,M,by rw [hi'];exact hm,hlow,by rw [hi'];exact hnd,by rw [hi'];exact hj⟩;simp only [xq_,l0,h1]
  | succ k ih=>
   intro i hi Hi gi N M hm hlow hnd hj;have l0:ld (.ref H.next 0 0) Hi=some (I c.au,Hi):=by rw [dA (bx Hi M.same)];rfl
   have h1:(i:Int) < c.au:=by omega
   have h6:(i:Int)+1=((i+1:Nat):Int):=by omega
   have h7:=wrap_i64 (a:=((i+1:Nat):Int)) (by omega) (by omega);have hxi:=hx.fU (H':=Hi) (zaC (by omega) M.next) λr hr=> by rw [M.same r (by omega)];exact bg hr
   obtain⟨cells,x1,x2⟩:=hxi;have hcl:cells.length=ps.length:=by have:=x1.1;omega
   have s1:=x1.ix (k:=.i64) (i:=(i:Int)) (by omega) (by omega);rw [zao] at s1;have s2:=x1.ld (i:=i) (by omega);obtain⟨v,hv⟩:∃v,cells[i]?=some v:=⟨_,zab (by omega)⟩
   obtain⟨l,hl⟩:∃l,ps[i]?=some l:=⟨_,zab (by omega)⟩
   rw [hv] at s2;obtain⟨v1,v2⟩:=x2 i v l hv hl;have s4:=eX (bx Hi M.same);obtain⟨y,hy,cy⟩:=M.good.seq hm (i:=9) (m:=1) (l:=mO N i) rfl;obtain⟨Ha',a,ga,a1,Ma,Ia⟩:=Zi Hi.guard c h i l (by have:=hp2 l (zat hl);omega) v1.guard;obtain⟨Ha,a1,Ma⟩:=drawn a1 Ma;have Na:=M.trans Ma;let ga':=cup Hi.next gi ga
   have hK:=M.good.lt hm;have ab4:∀q,q < Hi.next->ga' q=gi q:=λq hq=> by simp only [ga',cup,hq,if_true]
   have akn:∀q cs,ga q=some cs->ga' q=some cs:=λq cs hq=> by
    have:=(Ma.lt hq).1;simp only [ga',cup];rw [if_neg (by omega),hq]
   have hma:ga' K=some (nU f N c i []):=by rw [ab4 K hK,hm]
   let o:eP:=.blk 0 158 [.ref (a 0) 0 0];have hnl:(mO N i).length=i*1:=by simp [mO]
   obtain⟨y',He,Hf,t1,t2,t3,t4⟩:=(Na.good.new o).append (e:=158) (by_:=8) (by rw [oD,Na.base,n1];simp only [H1,oD];omega) hma (i:=9) (l:=mO N i) rfl (by decide) hnl ((cy.ext Ma.next Ma.same).new o) (mJ (ex:=true) (n:=1) (m:=1) (l:=[.ref (a 0) 0 0]) rfl) rfl (by unfold most;omega) (by unfold most;omega);let N':Nat->Nat->Nat:=λj=> if j=i then a else N j
   have hN:∀j,j < i->N' j=N j:=λj hj=> by simp only [N'];rw [if_neg (by omega)]
   have hNi:N' i=a:=by simp only [N',if_true]
   have Mf:Made H1 Hf (upd ga' K (nU f N' c (i+1) [])):=by
    refine((Na.new o).step t3 t4).as ?_
    congr 1
    show nU f N' c (i+1) []=_;have:=Ea (N:=N) (N':=N') hN;simp only [mO] at this;simp only [nU];rw [this,hNi];rfl
   have dat:∀q cs,ga' q=some cs->¬SL cs->upd ga' K (nU f N' c (i+1) []) q=some cs:=λq cs hq hd=> by
    rw [bP];exact hq;intro e;subst e;rw [hma] at hq;cases hq;exact hd Ti
   have hal:∀s,s < 3->Hi.next<=a s/\ga' (a s)=ga (a s):=λs hs=> by
    obtain⟨l,hg⟩:=Ia.ald hs;have:=(Ma.lt hg).1;exact⟨this,by simp only [ga',cup];rw [if_neg (by omega)]⟩
   have hNl:∀j,j < i->∀s,s < 3->N j s < Hi.next:=λj hji s hs=> by
    obtain⟨lj,hlj⟩:∃l,ps[j]?=some l:=⟨_,zab (by omega)⟩
    obtain⟨l,hg⟩:=(hnd j lj hji hlj).ald hs;exact M.good.lt hg
   obtain⟨H',g',N'',r1,r2⟩:=ih (i+1) (by omega) Hf _ N' Mf aY (λq hq=> by
    rw [bP (by omega),ab4 q (by omega),hlow q hq]) (λj lj hj1 hlj=> by
    by_cases hji:j=i
    ·subst hji;rw [hl] at hlj;cases hlj;rw [hNi];exact Ia.ext (λq cs hq hd=> dat q cs (akn q cs hq) hd) λs hs=> by
      obtain⟨h1,h2⟩:=hal s hs;rw [bP (by omega),h2]
    ·rw [hN j (by omega)];refine(hnd j lj (by omega) hlj).ext (λq cs hq hd=> dat q cs (by rw [ab4 q (M.good.lt hq),hq]) hd) λs hs=> ?_;have hlt:=hNl j (by omega) s hs;have hne:N j s≠K:=λe=> by
      obtain⟨l',hg,_,hl'⟩:=(hnd j lj (by omega) hlj).lens hs;rw [e,hm] at hg;cases hg;simp [nU,Cfg.av] at hl'
     rw [bP hne,ab4 _ hlt]) (λj k s t hj1 hk1 hs ht e=> by
    by_cases hji:j=i
    ·by_cases hki:k=i
     ·subst hji;subst hki;rw [hNi] at e;exact⟨rfl,Ia.inj hs ht e⟩
     ·subst hji;rw [hNi,hN k (by omega)] at e;have:=(hal s hs).1;have:=hNl k (by omega) t ht;omega
    ·by_cases hki:k=i
     ·subst hki;rw [hNi,hN j (by omega)] at e;have:=(hal t ht).1;have:=hNl j (by omega) s hs;omega
     ·rw [hN j (by omega),hN k (by omega)] at e;exact hj j k s t (by omega) (by omega) hs ht e)
   refine⟨H',g',N'',?_,r2⟩;rw [VK];have eb:=nT (e:=158) (m:=1) (z:=[zP]) (v:=.ref (a 0) 0 0) (H:=Ha) rfl rfl rfl;have ec:(AV.ref (a 0) 0 0).cells=[.ref (a 0) 0 0]:=rfl;rw [ec] at eb;simp only [o] at t1 t2;simp only [Nat.reduceLeDiff,xq_,hq_,l0,h1,s1,s2,s4,hy,a1,ae9,zch,eb,t1,t2,dB,h6,h7,r1]
 have hf:=M1.lt aY;obtain⟨H',g',N,r1,r2,r3,r4,r5,r6⟩:=key ps.length 0 (by omega) _ g0 (λ_ _=> 0) M0 aY (λq hq=> rfl) (λj l hj=> by omega) (λi j s t hi=> by omega);refine⟨H',K,f,N,g',dU rfl rfl (ajv _ _ _ _ (r:=(_,H')) ?_),r2.uU,?_⟩
 ·have b2:=eX (bx H2 M1.same);have em:bd 157 [(0,.agg c.av),(1,.ref f 0 0)]=some (.agg xs):=by
   simp only [xq_,afq,lD,fV,aaj,Cfg.av,eH];rfl
  simp only [H1] at b1 e1 e2 e4;simp only [Nat.reduceLT,xq_,hq_,agh,aO (dI c),b1,e1,e2,zar,e4,em,aO hall];exact r1
 ·have gf:g' f=some (SN c (List.replicate (4*c.au.toNat) [])):=by
   rw [r4 f hf.2];simp only [g0];rw [bP (by omega),aY]
  refine⟨by rw [r3];simp [jJ.new],⟨_,gf,by simp [jJ.new],λi l cells hl hc=> ?_⟩,λi n hi=> ?_,by simp only [jJ.new,zay];exact r6⟩
  ·have h1:l=[]:=by
    have hm:=zat hl;simp only [jJ.new,za8] at hm;obtain⟨p,hp,hl2⟩:=hm;rw [zcM hp] at hl2
    simpa [aaR,Port.zero] using hl2
   rw [zbn] at hc;split at hc
   ·cases hc;rw [h1];exact .nil
   ·cases hc
  ·simp only [jJ.new,zas,zbP] at hi;obtain⟨l,hl,rfl⟩:=hi;exact r5 i l (zah.1 hl).1 hl
structure mQ(H:ah)(x:AV)(l:List Int):Prop where
 is:aA H x 1 l.length (l.map I)
 one:One x
 nil:l=[]->x=zN
theorem Je(H:ah)(l:List Int):mQ H (dat l) l:=⟨gW H l,Il,λh=> by rw [h,dat,jo]⟩
theorem mQ.guard {H:ah}{x:AV}{l:List Int}(h:mQ H x l):mQ H.guard x l:=⟨h.is.guard,h.one,h.nil⟩
theorem mQ.new {H:ah}{x:AV}{l:List Int}(h:mQ H x l)(o:eP):mQ (H.new o) x l:=⟨h.is.new o,h.one,h.nil⟩
theorem mQ.fU {H H':ah}{x:AV}{l:List Int}(h:mQ H x l)(hn:H.next<=H'.next)(hg:∀r,r < H.next->H'.get r=H.get r):mQ H' x l:=⟨h.is.fU hn λr _ hr=> hg r hr,h.one,h.nil⟩
theorem BD {p:Pkt}{x:AV}(h:One x):(p.avx x).all AV.aJ=true:=by simp [Pkt.avx,iH,kN,h.2]
section
variable {b:Nat}{H H':ah}{g:bJ}{q:Nat}{cs:List Cell}
theorem OS.own {τ:Nat->Option Tag}{T:Tag}{x:AV}{m:Nat}{l:List AV}(h:OS b H τ T x m l):Own b H x m l:=by
 rcases h with h | ⟨r,g,off,n,cap,ex,ty,all,k0,_,k2⟩
 ·exact .inl h
 ·exact .inr ⟨r,g,off,n,cap,ex,ty,all,k0,k2⟩
theorem Own.one {x:AV}{m:Nat}{l:List AV}(h:Own b H x m l):One x:=by
 rcases h with⟨rfl,_⟩ | ⟨r,g,off,n,cap,ex,ty,all,rfl,_⟩
 ·exact vK
 ·exact pW
theorem BF {α:Type}:∀{es:List (Int × α)} {n:Int} {v:α},jq es n=some v->∃j:Nat,es[j]?=some (n,v)/\∀k,k < j->∀e,es[k]?=some e->e.1≠n
 | [],_,_,h=> by cases h
 | (k,w)::es,n,v,h=> by
  simp only [jq] at h;split at h
  ·rename_i e;subst e;cases h;exact⟨0,rfl,λk hk=> by omega⟩
  ·rename_i e;obtain⟨j,h1,h2⟩:=BF h;refine⟨j+1,h1,λk hk x hx=> ?_⟩;cases k with
   | zero=> cases hx;exact e
   | succ k=> exact h2 k (by omega) x (by simpa using hx)
theorem Eb {α:Type}:∀{es:List (Int × α)} {n:Int},jq es n=none↔n∉es.map (·.1)
 | [],_=> by simp [jq]
 | (k,w)::es,n=> by
  simp only [jq];by_cases e:k=n
  ·simp [e]
  ·simp only [e,if_false,zaA,zai,not_or];rw [Eb];exact⟨λh=> ⟨λh'=> e h'.symm,h⟩,λh=> h.2⟩
theorem y9:∀(es:List (Int × AV)) (n:Int),oz es n=jq es n
 | [],_=> rfl
 | (k,w)::es,n=> by
  simp only [oz,jq];split
  ·rfl
  ·exact y9 es n
theorem WR {α β:Type}:∀{es:List (Int × α)} {az:List (Int × β)} {n:Int},az.map (·.1)=es.map (·.1)->(jq es n=none↔jq az n=none):=by
 intro es az n h;rw [Eb,Eb,h]
theorem Lu {α β:Type}:∀{es:List (Int × α)} {az:List (Int × β)} {n:Int} {v:α},az.map (·.1)=es.map (·.1)->jq es n=some v->∃(j:Nat) (w:β),jq az n=some w/\es[j]?=some (n,v)/\az[j]?=some (n,w)
 | [],_,_,_,_,h=> by cases h
 | (k,v0)::es,[],_,_,h,_=> by simp at h
 | (k,v0)::es,(k',w0)::az,n,v,h,h'=> by
  simp only [zaA,zcJ] at h;obtain⟨rfl,h⟩:=h;simp only [jq] at h' ⊢;split at h'
  ·rename_i e;subst e;cases h';exact⟨0,w0,by simp,rfl,rfl⟩
  ·rename_i e;obtain⟨j,w,h1,h2,h3⟩:=Lu h h';exact⟨j+1,w,by simp only [e,if_false];exact h1,h2,h3⟩
theorem Good.maps(G:Good b H g)(h:g q=some cs){i m:Nat}{k:IntKind}{es:List (Int × List AV)}(hi:cs[i]?=some (.maps k m es)):
  ∃r,ld (.ref q 0 i) H=some (.mp r,H)/\lnM (.mp r) H=some (I es.length,H)/\∀z n,∃x,(jq es n=none->x=.s z)/\(∀l,jq es n=some l->Own b H x m l)/\∀ok,lk k z (.mp r) (.s (.int k n)) ok H=some ((if ok then .tup [x,B (jq es n).isSome] else x),H):=by
 obtain⟨h0,τ,hR⟩:=G;have R:=hR q cs h;obtain⟨ty,xs,h1,h2,h3,h4⟩:=R.blk;have hlt:i < xs.length:=by rw [h2];exact(zah.1 hi).1
 have hx:xs[i]?=some (xs[i]'hlt):=zab hlt;have:=h4 i _ _ hi hx;simp only [CR] at this;obtain⟨aes,⟨r,e,t1,t2,t3,t4⟩,a2,a3⟩:=this;rw [e] at hx;refine⟨r,by rw [dA h1,hx];rfl,?_,λz n=> ?_⟩
 ·simp only [lnM,jP,dO,zaf,aiZ,t4];have:=congrArg List.length a2;simp only [zay] at this;rw [this]
 ·cases hn:jq es n with
  | none=>
   have hf:oz aes n=none:=by rw [y9];exact(WR a2).1 hn
   refine⟨.s z,λ_=> rfl,λl hl=> (by cases hl),λok=> ?_⟩;simp only [lk,jP,dO,zaf,lkO,t4,and_self,if_true,hf];cases ok <;> rfl
  | some l=>
   obtain⟨j,w,b1,b2,b3⟩:=Lu a2 hn;refine⟨w,λh=> (by cases h),λl' hl=> (by cases hl;exact(a3 j n l w b2 b3).own),λok=> ?_⟩;simp only [lk,jP,dO,zaf,lkO,t4,and_self,if_true,y9,b1];cases ok <;> rfl
theorem Good.aax(G:Good b H g)(h:g q=some cs){i w m:Nat}{ls:List (List AV)}(hi:cs[i]?=some (.aax w m ls)):
  ∃x xs,ld (.ref q 0 i) H=some (x,H)/\Own b H x w xs/\xs.length=ls.length/\∀(j:Nat) l y,ls[j]?=some l->xs[j]?=some y->Own b H y m l:=by
 obtain⟨h0,τ,hR⟩:=G;have R:=hR q cs h;obtain⟨ty,ys,h1,h2,h3,h4⟩:=R.blk;have hlt:i < ys.length:=by rw [h2];exact(zah.1 hi).1
 have hx:ys[i]?=some (ys[i]'hlt):=zab hlt;have:=h4 i _ _ hi hx;simp only [CR] at this;obtain⟨xs,a1,a2,a3⟩:=this;exact⟨ys[i]'hlt,xs,by rw [dA h1,hx];rfl,a1.own,a2,λj l y hl hy=> (a3 j l y hl hy).own⟩
end
theorem LC(H:ah){l:List Int}(hl:l.length < 1000000000){x:AV}(hx:mQ H x l):cl 36 [x] H=some (dat l,H):=by
 by_cases h:l=[]
 ·rw [hx.nil h];subst h;have t:=qp H [] (by simp);have z:dat ([]:List Int)=zN:=by simp [dat,jo]
  rw [z] at t ⊢;exact t
 ·have h0:l.length≠0:=λe=> h (zan e);have e2:=qg (e:=3) (by_:=8) (r:=H.guard.next) (H:=H.guard.new (.blk 0 3 [])) pY (hx.is.guard.new _) (uj l) h0 (by unfold most;omega) (by unfold most;omega);simp only [yw,fC] at e2;refine iJ rfl rfl (YR _ _ _ (r:=(.sl (H.next+1) 0 0 1 l.length l.length false,(H.guard.new (.blk 0 3 [])).new (.blk 0 (3+gB) (l.map I)))) ?_) ?_
  ·have e1:bi .eql 22 x zN=some (B false):=aA.WB Tryz.underlying22 hx.is h0;simp only [xq_,VL,e1,NU,vO,e2,zbi,zaR]
  ·rw [tq h];refine jW (by omega) (cells:=l.map I) ?_ (gQ _ λx hx=> qV l x hx _ _);simp only [bI,iw,fC,yw,if_true];rw [if_pos (by simp),zaM,zau (by simp)]
theorem WS(e:Ent){d:Nat}:∀x∈e.av,Frz (d+2) x:=λx hx=> by
 simp only [Ent.av,zai,zaK,or_false] at hx;rcases hx with rfl | rfl | rfl | rfl | rfl | rfl <;> first | exact fP | exact yK
theorem OU(e:Row){d:Nat}:∀x∈e.av,Frz (d+2) x:=λx hx=> by
 simp only [Row.av,zai,zaK,or_false] at hx;rcases hx with rfl | rfl | rfl <;> first | exact fP | exact yK
theorem BG:Ent.zero.av=[zI,zI,zI,zI,zB,zN]:=by simp [Ent.zero,Ent.av,dat,jo]
theorem QZ:Row.zero.av=[zI,zI,zN]:=by simp [Row.zero,Row.av,dat,jo]
theorem Zj(H:ah)(e:Ent){x:AV}(hl:e.data.length < 1000000000)(hx:mQ H x e.data):cl 83 [.agg (e.avx x)] H=some (.agg e.av,H):=by
 refine bC rfl rfl (aj9 _ _ _) ?_ (vN (WS e));have e1:=λo o'=> LC ((H.guard.new o).new o') hl ((hx.guard.new o).new o');simp only [Nat.reduceLT,Nat.reduceAdd,aP,xq_,hq_,agJ,aO,hx.one.2,Ent.avx,e1,Ent.av]
section
variable {b:Nat}{H:ah}{g:bJ}{q:Nat}
theorem alH(H:ah)(e:Ent){r:Nat}{aj:Int}(h:∀H':ah,H'.get=H.get->ld (.ref r 0 0) H'=some (I aj,H'))(hr:r < H.next):cl 126 [.agg e.av,.ref r 0 0] H=some (B (decide (e.aj=aj)),H):=by
 refine bC rfl rfl (ag6 _ _ _ _) ?_ fP;have e1:=h H.guard rfl;simp only [Nat.reduceLT,xq_,hq_,abm,aO,Ent.av,e1,hr]
theorem adV(G:Good b H g){c:Cache}(h:g q=some (uV c))(hl:c.l.length < 1000000)(aj:Int):cl 82 [.ref q 0 0,I aj] H=some (I (zX (c.at_ aj)),H):=by
 refine bC rfl rfl (aj8 _ _ _ _) ?_ fP;have G1:=G.guard.new (.blk 0 3 [I aj]);obtain⟨x,hx,c1⟩:=G1.seq h (i:=0) rfl;have hs:=c1.is (by decide) (dX jG c.l);have e2:=zY (H.guard.new (.blk 0 3 [I aj])) (enc:=Ent.av) jG (f:=.fn (.func 126) [] [.ref H.next 0 0]) hs (by omega) (λe=> decide (e.aj=aj)) (λe _=> by
  rw [sK (by kernel_rfl)];exact alH _ e (λH' hg=> by rw [dA (g:=0) (ty:=3) (xs:=[I aj]) (by rw [hg];exact aK rfl)];rfl) (by rw [fC,yw];omega))
 have eb:iC 3 (I aj) H.guard=some (.ref H.next 0 0,H.guard.new (.blk 0 3 [I aj])):=rfl;simp only [xq_,agI,eb,hx,e2];rfl
theorem zZ {α:Type}{p:α->Bool}:∀l:List α,(l.findIdx? p).bind (λi=> l[i]?)=l.find? p
 | []=> rfl
 | a::l=> by
  rw [zca,List.find?_cons];cases h:p a with
  | true=> simp
  | false=>
   simp only [zaj,if_false];rw [<-zZ l];cases l.findIdx? p <;> simp
def oh(o:Option Ent):AV:=.tup [.agg (o.getD .zero).av,B o.isSome]
theorem Gq(o:Option Ent):Frz 9 (oh o):=Ip λx hx=> by
 simp only [zai,zaK,or_false] at hx;rcases hx with rfl | rfl
 ·exact vN (WS _)
 ·exact fP
theorem Ec(G:Good b H g){c:Cache}(h:g q=some (uV c))(hl:c.l.length < 1000000)(hd:∀e∈c.l,e.data.length < 1000000000)(aj:Int):cl 41 [.ref q 0 0,I aj] H=some (oh (c.find aj),H):=by
 refine bC rfl rfl (ajA _ _ _ _) ?_ (Gq _);have G1:=G.guard.new (.blk 0 100 [zI,zI,zI,zI,zB,zN]);have e1:=adV G1 h hl aj;have hf:c.find aj=(c.at_ aj).bind λi=> c.l[i]?:=(zZ c.l).symm;cases ha:c.at_ aj with
 | none=>
  rw [ha] at e1 hf;have hn:zX (none:Option Nat)=-1:=rfl;rw [hn] at e1;simp only [Int.reduceLT,Int.reduceNeg,Nat.reduceAdd,aP,xq_,hq_,adh,e1,aae,lD,nS,hf,oh,BG,zcl,zbI,Option.bind_none]
 | some i=>
  rw [ha] at e1 hf;have hi:i < c.l.length:=List.findIdx?_eq_some_iff_findIdx_eq.1 ha |>.1
  obtain⟨e,he⟩:∃e,c.l[i]?=some e:=⟨_,zab hi⟩
  have hn:zX (some i)=(i:Int):=rfl;rw [hn] at e1;have h0:¬(i:Int) < 0:=by omega
  obtain⟨x,hx,c1⟩:=G1.seq h (i:=0) rfl;have hs:=c1.is (by decide) (dX jG c.l);have e3:=hs.ix (k:=.i64) (i:=(i:Int)) (by omega) (by omega);rw [zao] at e3;have e4:=xI jG hs he;have e5:=λH=> Zj H e (hd e (zat he)) (Je H e.data);have e6:e.avx (dat e.data)=e.av:=rfl;rw [e6] at e5;have hf':c.find aj=some e:=by rw [hf];exact he
  simp only [Nat.reduceAdd,aP,xq_,hq_,adh,e1,h0,hx,e3,e4,e5,hf',oh,zax,zct]
theorem ahK(G:Good b H g){c:Cfg}{dF:Rows}(h:g q=some (Gm c dF))(hd:∀e∈dF,e.2.data.length < 1000000000)(aj:Int):cl 124 [.ref q 0 0,I aj] H=some (.tup [.agg (jg dF aj).av,B (jq dF aj).isSome],H):=by
 refine bC rfl rfl (ag4 _ _ _ _) ?_ (Ip λx hx=> ?_)
 ·have G1:=G.guard.new (.blk 0 95 [zI,zI,zN]);obtain⟨r,f1,f2,_⟩:=G1.map h (i:=8) rfl;have f3:=f2 (.agg #[.int .i64 0,.int .i64 0,.slice none 0 0]) aj true;rw [Ir] at f3;cases hr:jq dF aj with
  | none=>
   have e5:=λH=> qp H [] (by simp);have z0:dat ([]:List Int)=zN:=by simp [dat,jo]
   rw [z0] at e5;have zc:AV.cells (.s (.agg #[.int .i64 0,.int .i64 0,.slice none 0 0]))=[zI,zI,zN]:=rfl;simp only [hr,Option.map_none,if_true] at f3;have zn:zN.aJ=true:=rfl;have zn':zN.cells=[zN]:=rfl;simp only [Nat.reduceAdd,aP,xq_,hq_,VW,f1,f3,zc,e5,jg,hr,QZ,zcl,zbI,zn,zn']
  | some w=>
   simp only [hr,zaf,if_true] at f3;have hm:w.data.length < 1000000000:=by
    obtain⟨j,hj,_⟩:=BF hr;exact hd _ (zat hj)
   have e5:=λH=> qp H w.data hm;simp only [Nat.reduceAdd,aP,xq_,hq_,VW,f1,f3,Row.av,e5,jg,hr,zax,zct]
 ·simp only [zai,zaK,or_false] at hx;rcases hx with rfl | rfl
  ·exact vN (OU _)
  ·exact fP
theorem Tj(G:Good b H g){t:Turns}(h:g q=some (uX t))(aj:Int):cl 85 [.ref q 0 0,I aj] H=some (I (t.owner aj),H):=by
 refine bC rfl rfl (akc _ _ _ _) ?_ fP;obtain⟨r,f1,f2,_⟩:=G.guard.map h (i:=0) rfl;have f3:=f2 (.int .i64 0) aj true;rw [Ir] at f3;cases hr:jq t.gX aj with
 | none=>
  simp only [hr,Option.map_none,if_true] at f3;simp only [Int.reduceNeg,xq_,adq,f1,f3,Turns.owner,hr,zcl]
 | some w=>
  simp only [hr,zaf,if_true] at f3;simp only [Int.reduceNeg,xq_,adq,f1,f3,Turns.owner,hr,zax]
theorem Zk {e m by_ r ty:Nat}{y:AV}{H:ah}(hx:H.get r=.blk 0 ty [])(hy:aA H y m 0 []):app e m by_ (.sl r 0 0 m 0 0 true) y H=some (.sl r 0 0 m 0 0 true,H):=by
 obtain⟨c1,c2⟩:=hy.uQ;simp only [app,c1,c2,dD];rw [if_pos ⟨by simp,rfl⟩];simp only [hx];rw [if_pos ⟨trivial,trivial,by simp⟩,if_pos trivial]
theorem OV(H:ah){l:List Evn}(hl:l.length < 1000000000){x:AV}(hx:aA H x 4 l.length (l.flatMap Evn.av))(hf:∀a:Evn,∀z∈Evn.av a,Frz 8 z)(ha:∀a:Evn,(Evn.av a).all AV.aJ=true)(hm:∀a:Evn,(Evn.av a).length=4):∃y,cl 102 [x] H=some (y,H)/\∀H':ah,aA H' y 4 l.length (l.flatMap Evn.av):=by
 by_cases hz:x=zN
 ·subst hz;have h0:l=[]:=by
   have h1:=hx.2.2.2;exact zan h1
  subst h0;refine⟨zN,iJ rfl rfl (VP _ _ _ (r:=(zN,H.guard)) ?_) jH,λ_=> aA.nil⟩;have e:bi .eql 123 zN zN=some (B true):=by kernel_rfl
  simp only [xq_,Qy,e]
 ·have e1:bi .eql 123 x zN=some (B false):=by
   obtain⟨_,hx⟩:=hx;cases x with
   | sl r g o m n c ex=> exact yL Tryz.underlying123
   | vs n m l=> exact qh Tryz.underlying123
   | s v=>
    cases v with
    | slice a b c=>
     cases a with
     | none=> obtain⟨rfl,rfl,_⟩:=hx;exact absurd rfl hz
     | some a=> exact hx.elim
    | _=> exact hx.elim
   | _=> exact hx.elim
  let H1:=H.guard.new (.blk 0 184 []);have x1:aA H1 x 4 l.length (l.flatMap Evn.av):=hx.guard.new _;by_cases h:l=[]
  ·subst h;have e2:=Zk (e:=184) (by_:=32) (r:=H.next) (H:=H1) (aK rfl) x1;refine⟨.vs 0 4 [],iJ rfl rfl (VP _ _ _ (r:=(.sl H.next 0 0 4 0 0 true,H1)) ?_) ?_,λ_=> aA.vs rfl⟩
   ·simp only [H1] at e2;simp only [xq_,Qy,e1,aad,vO,e2,zbi,zaR];rfl
   ·refine jW (zac _) (cells:=[]) ?_ rfl;have:H1.get H.next=.blk 0 184 []:=aK rfl
    simp only [bI,this];rfl
  ·have h0:l.length≠0:=λe=> h (zan e);have e2:=qg (e:=184) (by_:=32) (r:=H.next) (H:=H1) (aK rfl) x1 (AU ha l) h0 (by unfold most;omega) (by unfold most;omega);refine⟨.vs l.length 4 (l.flatMap Evn.av),iJ rfl rfl (VP _ _ _ (r:=(.sl (H.next+1) 0 0 4 l.length l.length false,H1.new (.blk 0 (184+gB) (l.flatMap Evn.av)))) ?_) ?_,λ_=> aA.vs (dX hm l)⟩
   ·have n1:H1.next=H.next+1:=rfl
    rw [n1] at e2;simp only [H1] at e2;simp only [xq_,Qy,e1,aad,vO,e2,zbi,zaR];rfl
   ·refine jW (by omega) (cells:=l.flatMap Evn.av) ?_ (gQ _ λz hz=> QU hf l z hz _ _);have:(H1.new (.blk 0 (184+gB) (l.flatMap Evn.av))).get (H.next+1)=.blk 0 (184+gB) (l.flatMap Evn.av):=aK rfl;simp only [bI,this];rw [if_pos ⟨trivial,by rw [dX hm];omega⟩,zaM,zau (by rw [dX hm];exact zac _)]
theorem WT {x:AV}{m n:Nat}{cells:List AV}(h:∀H':ah,aA H' x m n cells)(hz:∀z∈cells,Frz 8 z):Frz 9 x:=by
 have h0:=h ah.empty;obtain⟨hl,h1⟩:=h0;cases x with
 | sl r g o m n c ex=> exact absurd h1.2.2.1.1 (by simp [ah.empty])
 | vs n m l=> obtain⟨_,_,rfl⟩:=h1;exact aaG hz
 | s v=> exact fP
 | _=> exact h1.elim
theorem Ed(G:Good b H g){l:List Evn}(h:g q=some (xJ l))(h2:l.length < 1000000):∃x,cl 55 [.ref q 0 0] H=some (x,H)/\∀H':ah,aA H' x 4 l.length (l.flatMap Evn.av):=by
 obtain⟨x,hx,c⟩:=G.guard.seq h (i:=0) rfl;obtain⟨y,e,hy⟩:=OV H.guard (l:=l) (by omega) (c.is (by decide) (dX uf l)) Wu N7 uf;refine⟨y,bC rfl rfl (ajJ _ _ _) ?_ (WT hy λz hz=> ?_),hy⟩
 ·simp only [xq_,agp,hx,e]
 ·obtain⟨a,_,ha⟩:=za8.1 hz;exact Wu a z ha
theorem adW(G:Good b H g){a:Nat->Nat}{c:Cfg}{me:Int}{n:Node}(N:nV g a c me n)(hd:∀e∈n.home.dF,e.2.data.length < 1000000000)(aj:Int):cl 80 [.ref (a 0) 0 0,I aj] H=some (.tup [.agg (jg n.home.dF aj).av,B (jq n.home.dF aj).isSome],H):=by
 obtain⟨h0,h1,h2,h3,h4,h5⟩:=N;refine bC rfl rfl (aj6 _ _ _ _) ?_ (Ip λx hx=> ?_)
 ·have G1:=G.guard.new (.blk 0 95 [zI,zI,zN]);have l1:=G1.load h0 (i:=11) (x:=.ref (a 3) 0 0) rfl;have l2:=G1.load h3 (i:=0) (x:=.ref (a 4) 0 0) rfl;have e:=ahK G1 h4 hd aj;simp only [Nat.reduceAdd,aP,xq_,hq_,agF,l1,l2,e]
 ·simp only [zai,zaK,or_false] at hx;rcases hx with rfl | rfl
  ·exact vN (OU _)
  ·exact fP
theorem WU(G:Good b H g){a:Nat->Nat}{c:Cfg}{me:Int}{n:Node}(N:nV g a c me n)(aj:Int):cl 43 [.ref (a 0) 0 0,I aj] H=some (I (n.home.aT.owner aj),H):=by
 obtain⟨h0,h1,h2,h3,h4,h5⟩:=N;refine bC rfl rfl (ajC _ _ _ _) ?_ fP;have l1:=G.guard.load h0 (i:=11) (x:=.ref (a 3) 0 0) rfl;have l2:=G.guard.load h3 (i:=1) (x:=.ref (a 5) 0 0) rfl;have e:=Tj G.guard h5 aj;simp only [xq_,agk,l1,l2,e]
theorem Jf(G:Good b H g){A:Adr}{m:bH}(M:fG g A m)(hn:m.au.length < 1000)(i:Int):cl 25 [.ref A.iV 0 0,I i] H=some (if 0<=i/\i < m.au.length then .ref (A.N i.toNat 0) 0 0 else zP,H):=by
 obtain⟨x,hx,c⟩:=G.guard.seq M.iV (i:=10) rfl;have hs:=c.is (n:=m.au.length) (by decide) (WE _ _);have e2:=hs.lnS;have hall:bD H.guard H.next 9 (if 0<=i/\i < m.au.length then .ref (A.N i.toNat 0) 0 0 else zP)=some (if 0<=i/\i < m.au.length then .ref (A.N i.toNat 0) 0 0 else zP):=by
  split
  ·rename_i h;obtain⟨n,hn⟩:∃n,m.au[i.toNat]?=some n:=⟨_,zab (by omega)⟩
   have:=G.lt (M.dG _ n hn).1;rw [bD];simp only [this,if_true]
  ·exact jH
 refine iJ rfl rfl (ajr _ _ _ _ (r:=(_,H.guard)) ?_) hall;by_cases h0:i < 0
 ·have:¬(0<=i/\i < m.au.length):=by omega
  rw [if_neg this];simp only [xq_,YQ,h0]
 ·by_cases h1:(m.au.length:Int)<=i
  ·have:¬(0<=i/\i < m.au.length):=by omega
   rw [if_neg this];simp only [xq_,YQ,h0,hx,e2,h1]
  ·have:0<=i/\i < m.au.length:=by omega
   rw [if_pos this];have e3:=hs.ix (k:=.i64) (i:=i) (by omega) (by omega);have e4:=hs.ld (i:=i.toNat) (by omega);rw [WG (by omega)] at e4;simp only [xq_,YQ,h0,hx,e2,h1,e3,e4]
end
theorem Own.ref {b:Nat}{H:ah}{x:AV}{m n:Nat}{l:List AV}(o:Own b H x m l)(hm:0 < m)(hl:l.length=n*m){j:Nat}(hj:j < n):
  ∃r gg off,(∀k:IntKind,ix m x (.s (.int k j)) H=some (.ref r gg off,H))/\(∀k,k < m->ld (.ref r gg (off+k)) H=(l[j*m+k]?).map λv=> (v,H))/\lda m (.ref r gg off) H=some (.agg ((l.drop (j*m)).take m),H):=by
 have hs:=o.is hm hl;have hjm:(j+1)*m<=n*m:=zaz _ (by omega);rw [zbB,zch] at hjm;rcases o with⟨_,h0⟩ | ⟨r,gg,off,n',cap,ex,ty,all,rfl,k2,k3,k4,k5,k6,k7,k8⟩
 ·rw [h0] at hl;simp only [zak] at hl;omega
 have hn:n'=n:=hs.2.2.1;subst hn;have hcm:n'*m<=cap*m:=zaz _ k4;refine⟨r,gg,off+j*m,λk=> ?_,λk hk=> ?_,?_⟩
 ·have:=hs.ix (k:=k) (i:=(j:Int)) (by omega) (by omega);rw [zao] at this;exact this
 ·rw [dA k5,k8,zaH,if_pos (by omega),zaL,zb1]
 ·rw [jw k5 (by omega),k8]
  congr 3
  rw [zcO,zbS,zcC,zbh (by omega)]
theorem Own.name {b:Nat}{H:ah}{m:Nat}{x:AV}{l:List AV}(c:Own b H x m l){r:Nat}(h:jO x=some r):b<=r/\r < H.next:=by
 rcases c with⟨rfl,_⟩ | ⟨r',g,off,n',cap,ex,ty,all,rfl,k2,k3,_⟩
 ·cases h
 ·simp only [jO,zaa] at h;omega
theorem Tn {l:List Ent}(h:l.Pairwise λa b=> a.aj < b.aj){a b:Ent}(ha:a∈l)(hb:b∈l)(e:a.aj=b.aj):a=b:=by
 induction h with
 | nil=> cases ha
 | cons h1 _ ih=>
  rcases zai.1 ha with ha1 | ha1
  ·rcases zai.1 hb with hb1 | hb1
   ·rw [ha1,hb1]
   ·have:=h1 b hb1;rw [ha1] at e;omega
  ·rcases zai.1 hb with hb1 | hb1
   ·have:=h1 a ha1;rw [hb1] at e;omega
   ·exact ih ha1 hb1
theorem aiB.find {c:Cfg}{me:Int}{n:Node}{r:iU}(S:aiB c me n r){e:Ent}(he:e∈r.aC.l):n.aC.find e.aj=some e:=by
 unfold Cache.find;cases hf:n.aC.l.find? λx=> decide (x.aj=e.aj) with
 | none=>
  have:=zbv.1 hf e (S.perm.mem_iff.2 he);simp at this
 | some x=>
  have h1:=zbM hf;have h2:=zbH hf;simp only [decide_eq_true_eq] at h1;rw [Tn S.sorted (S.perm.mem_iff.1 h2) he h1]
theorem LD {α β:Type}{f:α->Int}{g:β->Int}:∀{l:List α} {l':List β},l.length=l'.length->(∀(i:Nat) a b,l[i]?=some a->l'[i]?=some b->f a=g b)->(l.map f).sum=(l'.map g).sum
 | [],[],_,_=> rfl
 | a::l,b::l',h,hf=> by
  simp only [zaA,zcH];rw [hf 0 a b rfl rfl,LD (by simpa using h) λi a b ha hb=> hf (i+1) a b (by simpa using ha) (by simpa using hb)]
 | [],_::_,h,_=> by simp at h
 | _::_,[],h,_=> by simp at h
theorem Sim.left {m:bH}{r:jJ}(S:Sim m r):r.left=m.left:=by
 unfold jJ.left bH.left;refine LD S.len λi a b ha hb=> ?_;have:=S.dG i b a hb ha;simp only [Proc.left,this.ops,this.bf]
theorem Sim.all {m:bH}{r:jJ}(S:Sim m r):r.all=m.fab.all:=by
 unfold jJ.all Fab.all;rw [S.fab]
abbrev blw(n lo hi:Int):Bool:=decide (lo<=n) && decide (n < hi)
theorem Zl(H:ah)(n lo hi:Int):cl 211 [I n,I lo,I hi] H=some (B (blw n lo hi),H):=by
 refine dU rfl rfl (abV _ _ _ _ _ ?_);by_cases h:lo<=n
 ·simp only [xq_,KZ,h,blw,zaG]
 ·simp only [xq_,KZ,h,blw,zaF]
theorem ahL(a b c:Bool):a=false∨(a=true/\b=false)∨(a=true/\b=true/\c=false)∨(a=true/\b=true/\c=true):=by revert a b c;decide
theorem Pkt.ok_eq(p:Pkt):p.ok=(blw p.src 0 6 && blw p.dst 0 6 && blw p.id 0 4096 && (blw p.aS 1 10 && blw p.aj 0 8 && blw p.ptr (-1) 6) && blw p.aW 0 3 && !decide ((4:Int) < p.data.length)):=by
 have:decide (p.data.length<=4)=!decide ((4:Int) < p.data.length):=by
  by_cases h:p.data.length<=4
  ·have:¬(4:Int) < p.data.length:=by omega
   simp [h,this]
  ·have:(4:Int) < p.data.length:=by omega
   simp [h,this]
 unfold Pkt.ok;rw [this];simp only [blw,Bool.and_assoc]
theorem WV(H:ah)(p:Pkt):cl 174 [.agg p.av] H=some (I (if p.ok=true then 0 else 1),H):=by
 refine bC rfl rfl (abJ _ _ _) ?_ fP;have e1:=λH n lo hi=> Zl H n lo hi;have e2:=λH=> (gW H p.data).lnS;rw [p.ok_eq];generalize a1:blw p.src 0 6=b1;generalize a2:blw p.dst 0 6=b2;generalize a3:blw p.id 0 4096=b3;generalize a4:blw p.aS 1 10=b4;generalize a5:blw p.aj 0 8=b5;generalize a6:blw p.ptr (-1) 6=b6;generalize a7:blw p.aW 0 3=b7;by_cases h8:(4:Int) < p.data.length
 all_goals rcases ahL b1 b2 b3 with rfl | ⟨rfl,rfl⟩ | ⟨rfl,rfl,rfl⟩ | ⟨rfl,rfl,rfl⟩
 all_goals rcases ahL b4 b5 b6 with rfl | ⟨rfl,rfl⟩ | ⟨rfl,rfl,rfl⟩ | ⟨rfl,rfl,rfl⟩
 all_goals cases b7
 all_goals simp only [Nat.reduceLT,Int.reduceNeg,xq_,hq_,V3,aO,Pkt.av,e1,e2,a1,a2,a3,a4,a5,a6,a7,h8,zar,zaB,zaF,zb6]
theorem Tq(H:ah)(k:Int):cl 92 [I k] H=some (B (wQ k),H):=by
 refine bC rfl rfl (akg _ _ _) ?_ fP;by_cases h:1<=k
 ·simp only [xq_,adu,h,wQ,zaG]
 ·simp only [xq_,adu,h,wQ,zaF]
theorem ni(z:Int):((by8 z).toNat:Int)=z % 256:=by
 unfold by8;have h:(BitVec.ofInt 8 z).toNat=(z % ((2 ^ 8:Nat):Int)).toNat:=BitVec.toNat_ofInt z;have h2:(0:Int)<=z % 256:=zbq _ (by decide);rw [h,show((2 ^ 8:Nat):Int)=256 from rfl,zbE h2]
theorem Q5(z:Int):(AV.s (.int .u8 (IntKind.wrap .u8 z)))=Y (by8 z):=by
 show _=AV.s (.int .u8 ((by8 z).toNat:Int));rw [ni,aaX rfl];rfl
theorem ako(H:ah)(f:Bool):cl0 175 [B f] H=some (Y (by8 (if f then 1 else 0)),H):=by
 refine gK (ahn _ _ _ ?_);cases f
 ·simp only [xq_,V4];rfl
 ·simp only [xq_,V4];rfl
def alI(H0 H:ah)(x:AV)(l:List AV):Prop:=
 (x=zN/\l=[])∨(∃r g ty,x=.sl r g 0 1 l.length l.length false/\H0.next<=r/\r < H.next/\H.get r=.blk g ty l)∨(∃r ty,x=.sl r 0 0 1 l.length l.length true/\H0.next<=r/\r < H.next/\H.get r=.blk 0 ty l)
structure Acc(H0 H:ah)(x:AV)(l:List AV):Prop where
 gro:Gro H0 H
 base:H.base<=H0.next
 x:alI H0 H x l
theorem Acc.is {H0 H:ah}{x:AV}{l:List AV}(a:Acc H0 H x l):aA H x 1 l.length l:=by
 refine⟨by omega,?_⟩;rcases a.x with⟨rfl,rfl⟩ | ⟨r,g,ty,rfl,h1,h2,h3⟩ | ⟨r,ty,rfl,h0',h1,h2⟩
 ·exact⟨rfl,rfl,rfl⟩
 ·exact⟨rfl,rfl,⟨h2,zac _⟩,ty,l,h3,by omega,by simp⟩
 ·exact⟨rfl,rfl,⟨h1,zac _⟩,ty,l,h2,by omega,by simp⟩
theorem Acc.one {H0 H:ah}{x:AV}{l:List AV}(a:Acc H0 H x l):One x:=by
 rcases a.x with⟨rfl,rfl⟩ | ⟨r,g,ty,rfl,h1,h2,h3⟩ | ⟨r,ty,rfl,h0',h1,h2⟩
 ·exact vK
 ·exact pW
 ·exact pW
theorem Acc.akp {H0 H H':ah}{x:AV}{l:List AV}(a:Acc H0 H x l)(g:Gro H H'):Acc H0 H' x l:=by
 refine⟨a.gro.trans g,by rw [g.base];exact a.base,?_⟩;rcases a.x with h | ⟨r,g',ty,h0,h1,h2,h3⟩ | ⟨r,ty,h0,h0',h1,h2⟩
 ·exact .inl h
 ·exact .inr (.inl ⟨r,g',ty,h0,h1,zaw h2 g.next,by rw [g.same r h2];exact h3⟩)
 ·exact .inr (.inr ⟨r,ty,h0,h0',zaw h1 g.next,by rw [g.same r h1];exact h2⟩)
theorem Gro.put {H0 H:ah}{r g ty:Nat}{xs:List AV}(G:Gro H0 H)(hr:H0.next<=r):Gro H0 (H.put r (.blk g ty xs)):=
 ⟨G.next,G.base,λx hx=> by
  have:(H.put r (.blk g ty xs)).get x=H.get x:=by simp only [ah.put];rw [if_neg (by omega)]
  rw [this];exact G.same x hx,λh x k es=> by
  simp only [ah.put];split
  ·simp
  ·exact G.La h x k es⟩
theorem Acc.app {H0 H:ah}{x:AV}{l:List AV}(a:Acc H0 H x l){e by_ n:Nat}{y:AV}{new:List AV}(hy:aA H y 1 n new)(hc:new.all AV.aJ=true)(hn:n≠0)(hs:l.length+n < 1000)(hby:by_<=16):
  ∃x' H',app e 1 by_ x y H=some (x',H')/\Acc H0 H' x' (l++new):=by
 have hnew:new.length=n:=by have:=hy.1;omega
 obtain⟨c1,c2⟩:=hy.uQ;have hb1:n*by_<=most:=by
  have:n*by_<=1000*16:=zdd (by omega) hby;unfold most;omega
 have hb2:(l.length+n)*by_<=most:=by
  have:(l.length+n)*by_<=1000*16:=zdd (by omega) hby;unfold most;omega
 have hm1:n<=most:=by unfold most;omega
 have hm2:l.length+n<=most:=by unfold most;omega
 rcases a.x with⟨rfl,rfl⟩ | ⟨r,g,ty,rfl,h1,h2,h3⟩ | ⟨r,ty,rfl,h0',h1,h2⟩
 ·refine⟨_,_,N9 hy hc hn hm1 hb1,a.gro.trans (Gro.new _ _ _ _),by rw [oD];exact a.base,.inr (.inl ⟨H.next,0,e+gB,?_,a.gro.next,by rw [fC];omega,?_⟩)⟩
  ·simp only [zaS,hnew]
  ·rw [aK rfl,zaS]
 ·refine⟨.sl r (g+1) 0 1 (l.length+n) (l.length+n) false,H.put r (.blk (g+1) (grT e ty 0) (l++new)),?_,a.gro.put h1,a.base,.inr (.inl ⟨r,g+1,grT e ty 0,?_,h1,h2,?_⟩)⟩
  ·simp only [Proofs.YtgplhpgkompkmaaGreat.app,c1,c2];unfold dD;rw [if_pos ⟨hy.1,hc⟩];simp only [h3];rw [if_pos ⟨trivial,trivial,by omega⟩,if_neg hn,if_neg (by omega),if_pos ⟨hm2,hb2⟩];simp only [zaj,if_false,zaM];rw [if_pos (zaC a.base h1)];simp
  ·simp only [zal,hnew]
  ·simp only [ah.put,if_true]
 ·refine⟨.sl H.next 0 0 1 (l.length+n) (l.length+n) false,H.new (.blk 0 (e+gB) (l++new)),?_,a.gro.trans (Gro.new _ _ _ _),by rw [oD];exact a.base,.inr (.inl ⟨H.next,0,e+gB,?_,a.gro.next,by rw [fC];omega,aK rfl⟩)⟩
  ·simp only [Proofs.YtgplhpgkompkmaaGreat.app,c1,c2];unfold dD;rw [if_pos ⟨hy.1,hc⟩];simp only [h2];rw [if_pos ⟨trivial,trivial,by omega⟩,if_neg hn,if_neg (by omega),if_pos ⟨hm2,hb2⟩];simp
  ·simp only [zal,hnew]
theorem WW(n:Int):∀k,k < 8->(qo n).drop (8 - (k+1))=by8 (n.fdiv (2 ^ (8*k)))::(qo n).drop (8 - k)
 | 0,_ | 1,_ | 2,_ | 3,_ | 4,_ | 5,_ | 6,_ | 7,_=> rfl
 | k+8,h=> absurd h (by omega)
theorem akq(H:ah)(hb:H.base<=H.next)(n:Int):∃y H',cl0 176 [I n] H=some (y,H')/\Acc H H' y ((qo n).map Y):=by
 have key:∀k:Nat,k<=8->∀(x:AV) (K:ah) (l:List By),Acc H K x (l.map Y)->l.length+k=8->∃y H',Bq cl0 [I n,x,I (8*(k:Int) - 8)] K=some (y,H')/\Acc H H' y ((l++(qo n).drop (8 - k)).map Y):=by
  intro k
  induction k with
  | zero=>
   intro hk x K l a hl;have h1:¬((0:Int)<=8*((0:Nat):Int) - 8):=by omega
   refine⟨x,K,?_,by rw [show(qo n).drop (8 - 0)=[] from rfl,za7];exact a⟩;rw [QJ];simp only [xq_,h1]
  | succ k ih=>
   intro hk x K l a hl;have h0:8*((k+1:Nat):Int) - 8=((8*k:Nat):Int):=by omega
   have h1:(0:Int)<=((8*k:Nat):Int):=by omega
   have e1:bi .shr 3 (I n) (I ((8*k:Nat):Int))=some (I (n.fdiv (2 ^ (8*k)))):=by
    have:=Og (P:=Tryz.prog) (t:=3) (k:=.i64) (k':=.i64) (a:=n) h1;rw [zao,show min (8*k) (IntKind.bits .i64)=8*k from zbh (show 8*k<=64 by omega)] at this;exact this
   have e2:cv 3 5 (I (n.fdiv (2 ^ (8*k)))) K=some (Y (by8 (n.fdiv (2 ^ (8*k)))),K):=by rw [<-Q5];exact aaw
   obtain⟨c,hc⟩:∃c,by8 (n.fdiv (2 ^ (8*k)))=c:=⟨_,rfl⟩
   rw [hc] at e2;have b1:bs 220 1 [(0,Y c)] K=some (.sl K.next 0 0 1 1 1 true,K.new (.blk 0 5 [Y c])):=(Qk (by decide)).trans (nT rfl rfl rfl);have a1:=a.akp (Gro.new K 0 5 [Y c]);obtain⟨x',K',p1,a2⟩:=a1.app (e:=5) (by_:=1) (n:=1) (mJ (e:=5) (H:=K) (ex:=true) (n:=1) (m:=1) (l:=[Y c]) rfl) rfl (by decide) (by simp;omega) (by decide);have h2:((8*k:Nat):Int) - 8=8*(k:Int) - 8:=by omega
   have w:=wrap_i64 (a:=8*(k:Int) - 8) (by omega) (by omega);obtain⟨y,H',r1,r2⟩:=ih (by omega) x' K' (l++[c]) (by simpa using a2) (by simp;omega);refine⟨y,H',?_,?_⟩
   ·rw [QJ,h0];simp only [xq_,h1,e1,e2,b1,p1,sG,h2,w,r1]
   ·rw [WW n k (by omega),hc]
    simpa using r2
 obtain⟨y,H',r1,r2⟩:=key 8 (zac _) zN H [] ⟨Gro.refl H,hb,.inl ⟨rfl,rfl⟩⟩ rfl;refine⟨y,H',gK (aho _ _ _ ?_),by simpa using r2⟩;have:(8*((8:Nat):Int) - 8)=56:=rfl;rw [this] at r1;simp only [abL,r1]
theorem Gs {z:AV}:∀(rest pre:List AV),(∀x∈rest,One x)->fV (λi=> some (i*1,1)) (pre++dh [z] rest.length) ((rest.zipIdx pre.length).map λp=> (p.2,p.1))=some (pre++rest)
 | [],pre,_=> by simp [dh,nS]
 | x::rest,pre,h=> by
  rw [List.zipIdx_cons,zaA,Dv (off:=pre.length) (by simp) (h x (by simp)).1 (by simp [dh])];have e:(pre++dh [z] (x::rest).length).set pre.length x=(pre++[x])++dh [z] rest.length:=by
   show(pre++([z]++dh [z] rest.length)).set pre.length x=_;rw [List.set_append_right _ _ (zac _),Nat.sub_self];simp
  rw [e];have ih:=Gs (z:=z) rest (pre++[x]) λy hy=> h y (by simp [hy]);rw [zal,zam,zak,za4] at ih;rw [ih];simp
theorem Zm {e:Nat}{z:AV}{l:List AV}{H:ah}(h:∀x∈l,One x):bsl e 1 [z] l.length ((l.zipIdx 0).map λp=> (p.2,p.1)) H=some (.sl H.next 0 0 1 l.length l.length true,H.new (.blk 0 e l)):=by
 have:=Gs (z:=z) l [] h;simp only [zaS,zak] at this;unfold bsl;rw [this];have ha:l.all AV.aJ=true:=za0.2 λx hx=> (h x hx).2;simp only [ha,if_true]
theorem ahM(H:ah)(n lo hi:Int):cl0 211 [I n,I lo,I hi] H=some (B (blw n lo hi),H):=by
 refine gK (abV _ _ _ _ _ ?_);by_cases h:lo<=n
 ·simp only [xq_,KZ,h,blw,zaG]
 ·simp only [xq_,KZ,h,blw,zaF]
theorem ahN(H:ah)(p:Pkt){x:AV}(hx:mQ H x p.data)(hok:p.ok=true):cl0 174 [.agg (p.avx x)] H=some (I 0,H.new (.blk 0 81 (p.avx x))):=by
 refine gK (abJ _ _ _ ?_);have e1:=λH n lo hi=> ahM H n lo hi;have e2:=(hx.is.new (.blk 0 81 (p.avx x))).lnS;rw [p.ok_eq] at hok;generalize a1:blw p.src 0 6=b1 at hok;generalize a2:blw p.dst 0 6=b2 at hok;generalize a3:blw p.id 0 4096=b3 at hok;generalize a4:blw p.aS 1 10=b4 at hok;generalize a5:blw p.aj 0 8=b5 at hok;generalize a6:blw p.ptr (-1) 6=b6 at hok;generalize a7:blw p.aW 0 3=b7 at hok;simp only [zae] at hok;obtain⟨⟨⟨⟨⟨rfl,rfl⟩,rfl⟩,⟨⟨rfl,rfl⟩,rfl⟩⟩,rfl⟩,a8⟩:=hok;have h8:¬(4:Int) < p.data.length:=by simpa using a8
 have ax:=BD (p:=p) hx.one;simp only [Pkt.avx] at e2 ax ⊢;simp only [Nat.reduceLT,Int.reduceNeg,xq_,hq_,V3,aO ax,e1,e2,a1,a2,a3,a4,a5,a6,a7,h8,zar]
theorem Ee:∀l:List Int,(l.flatMap qo).length=l.length*8
 | []=> rfl
 | v::l=> by rw [zaV,zal,Ee l,iP,zam];omega
theorem akr {H:ah}(hb:H.base<=H.next)(p:Pkt){x:AV}(hx:mQ H x p.data)(hok:p.ok=true):
  ∃y H',cl0 128 [.agg (p.avx x)] H=some (.tup [y,I 0],H')/\Gro H H'/\dn H' y (ER p)/\H'.base<=H'.next:=by
 have hok2:=hok;simp only [Pkt.ok,zae,decide_eq_true_eq] at hok2;have ax:=BD (p:=p) hx.one;let o:eP:=.blk 0 81 (p.avx x);let H1:=H.new o;let H2:=H1.new o;have g1:Gro H H1:=Gro.new H 0 _ _;have g2:Gro H1 H2:=Gro.new H1 0 _ _;have hb2:H2.base<=H2.next:=by simp only [H2,H1,oD,fC];omega
 have ck:=ahN H1 p (hx.new o) hok;have at1:H1.get H.next=.blk 0 81 (p.avx x):=aK rfl
 have at2:H2.get H.next=.blk 0 81 (p.avx x):=by rw [g2.same _ (by simp only [H1,fC];omega)];exact at1
 have lx:(p.avx x).length=9:=rfl;have l1:lda 9 (.ref H.next 0 0) H1=some (.agg (p.avx x),H1):=(jw (off:=0) (n:=9) at1 (by rw [lx];exact zac _)).trans rfl;have lds:∀i v,(p.avx x)[i]?=some v->ld (.ref H.next 0 i) H2=some (v,H2):=λi v hv=> by rw [dA at2,hv];rfl
 have p0:=lds 0 (I p.aS) rfl;have p1:=lds 1 (I p.src) rfl;have p2:=lds 2 (I p.dst) rfl;have p3:=lds 3 (I p.id) rfl;have p4:=lds 4 (I p.aj) rfl;have p5:=lds 5 (I p.ptr) rfl;have p6:=lds 6 (I p.aW) rfl;have p7:=lds 7 (B p.flag) rfl;have p8:=lds 8 x rfl;have cv1:∀z H,cv 3 5 (I z) H=some (Y (by8 z),H):=λz H=> by rw [<-Q5];exact aaw
 have sh1:bi .shr 3 (I p.id) (.s (.int .u64 8))=some (I (p.id.fdiv 256)):=Og (P:=Tryz.prog) (t:=3) (k:=.i64) (k':=.u64) (a:=p.id) (n:=8) (by decide);have w1:=wrap_i64 (a:=p.ptr+1) (by omega) (by omega);have fl:=λH=> ako H p.flag;have hx2:=(hx.new o).new o;have ln2:=hx2.is.lnS;let hd:List By:=[by8 p.aS,by8 p.src,by8 p.dst,by8 (p.id.fdiv 256),by8 p.id,by8 p.aj,by8 (p.ptr+1),by8 p.aW,by8 (if p.flag then 1 else 0),by8 p.data.length]
 have bsH:bs 220 10 [(0,Y (by8 p.aS)),(1,Y (by8 p.src)),(2,Y (by8 p.dst)),(3,Y (by8 (p.id.fdiv 256))),(4,Y (by8 p.id)),(5,Y (by8 p.aj)),(6,Y (by8 (p.ptr+1))),(7,Y (by8 p.aW)),(8,Y (by8 (if p.flag then 1 else 0))),(9,Y (by8 p.data.length))] H2=some (.sl H2.next 0 0 1 10 10 true,H2.new (.blk 0 5 (hd.map Y))):=
  (Qk (by decide)).trans (Zm (l:=hd.map Y) λy hy=> by
   obtain⟨c,_,rfl⟩:=zaD.1 hy;exact adE)
 let H3:=H2.new (.blk 0 5 (hd.map Y));have g3:Gro H2 H3:=Gro.new H2 0 _ _;have l3:ld (.ref H.next 0 8) H3=some (x,H3):=by
  rw [dA (by rw [g3.same _ (by simp only [H2,H1,fC];omega)];exact at2)];rfl
 have ln3:=(hx2.new (.blk 0 5 (hd.map Y))).is.lnS;have acc0:Acc H2 H3 (.sl H2.next 0 0 1 10 10 true) (hd.map Y):=⟨g3,by simp only [H3,oD];exact hb2,.inr (.inr ⟨H2.next,5,rfl,zac _,by simp only [H3,fC];omega,aK rfl⟩)⟩
 have key:∀k i,i+k=p.data.length->∀a K,Acc H2 K a ((hd++(p.data.take i).flatMap qo).map Y)->
   ∃y H',Ba cl0 [a,x,I p.data.length,I i] K=some (.tup [y,I 0],H')/\Gro H2 H'/\dn H' y (ER p)/\H'.base<=H'.next:=by
  intro k
  induction k with
  | zero=>
   intro i hi a K ac;have h1:¬((i:Int) < p.data.length):=by omega
   rw [zau (by omega)] at ac;have hlen:(dY p).length < 900:=by
    have h2:=KW p;unfold ER rM at h2;simp only [zal,zam,zak,Pkt.bytes] at h2;omega
   have hbK:K.base<=K.next:=zaC ac.base ac.gro.next
   have bK:dn K a (dY p):=by
    have:=ac.is;rw [zay] at this;exact⟨this,by omega⟩
   obtain⟨y,H',e1,g',b',hb'⟩:=adF hbK bK hlen;refine⟨y,H',?_,ac.gro.trans g',b',hb'⟩;rw [QB];simp only [xq_,h1,e1]
  | succ k ih=>
   intro i hi a K ac;have h1:(i:Int) < p.data.length:=by omega
   have h6:(i:Int)+1=((i+1:Nat):Int):=by omega
   have h7:=wrap_i64 (a:=((i+1:Nat):Int)) (by omega) (by omega);obtain⟨v,hv⟩:∃v,p.data[i]?=some v:=⟨_,zab (by omega)⟩
   have hxK:=hx2.is.fU ac.gro.next λr _ hr=> ac.gro.same r hr
   have s1:=hxK.ix (k:=.i64) (i:=(i:Int)) (by omega) h1;rw [zao] at s1;have s2:ld (dM x i) K=some (I v,K):=by rw [hxK.ld (by omega),zas,hv];rfl
   have hbK:K.base<=K.next:=zaC ac.base ac.gro.next
   obtain⟨y,K1,e1,aw⟩:=akq K hbK v;have ac1:=ac.akp aw.gro;have hy:=aw.is;have hlt:(p.data.take i).length=i:=by rw [zav];omega
   obtain⟨a2,K2,e2,ac2⟩:=ac1.app (e:=5) (by_:=1) (n:=8) (by have h:=hy;rw [zay,iP] at h;exact h) (YP _) (by decide) (by
    simp only [zay,zal];have:((p.data.take i).flatMap qo).length=i*8:=by rw [Ee,hlt]
    rw [this];simp only [hd,zam,zak];omega) (by decide)
   have hap:((hd++(p.data.take i).flatMap qo).map Y)++(qo v).map Y=(hd++(p.data.take (i+1)).flatMap qo).map Y:=by
    rw [zcS,hv];simp
   rw [hap] at ac2;obtain⟨y',H',r1,r2,r3,r4⟩:=ih (i+1) (by omega) a2 K2 ac2;refine⟨y',H',?_,r2,r3,r4⟩;rw [QB];simp only [xq_,h1,s1,s2,e1,e2,dB,h6,h7,r1]
 obtain⟨y,H',r1,r2,r3,r4⟩:=key p.data.length 0 (by omega) _ H3 (by simpa using acc0);refine⟨y,H',gK (ag7 _ _ _ ?_),(g1.trans g2).trans r2,r3,r4⟩;have z0:((0:Nat):Int)=0:=rfl;rw [z0] at r1;simp only [H1,H2,H3,o,fC] at ck l1 p0 p1 p2 p3 p4 p5 p6 p7 p8 ln2 bsH l3 ln3 r1;simp only [Nat.reduceLT,xq_,abo,aO ax,l1,ck,p0,p1,p2,p3,p4,p5,p6,p7,p8,cv1,sh1,dB,w1,fl,ln2,bsH,l3,ln3,zar,r1]
def nmS(s:BitVec 64)(l:List By):BitVec 64:=l.foldl (λs c=> (s <<< 8) ||| c.setWidth 64) s
def nmV(l:List By):Int:=(nmS 0#64 l).toInt
theorem Tt(s:BitVec 64):IntKind.wrap .i64 (s.toNat:Int)=s.toInt:=by
 have h:=s.isLt;simp only [IntKind.wrap,IntKind.bits,IntKind.signed,BitVec.toInt_eq_toNat_cond,zaG,decide_eq_true_eq,ge_iff_le];split <;> split <;> omega
theorem adX {H:ah}{y:AV}{l:List By}(hx:dn H y l):cl0 180 [y] H=some (I (nmV l),H):=by
 have key:∀(k i:Nat),i+k=l.length->∀s:BitVec 64,Bv cl0 [U64 s,y,I l.length,I i] H=some (I (nmS s (l.drop i)).toInt,H):=by
  intro k
  induction k with
  | zero=>
   intro i hi s;have h1:¬((i:Int) < l.length):=by omega
   have e1:cv 262 3 (U64 s) H=some (I s.toInt,H):=by rw [<-Tt];exact YI (k:=.u64)
   rw [QL,zaJ (by omega)];simp only [xq_,h1,e1]
   try rfl
  | succ k ih=>
   intro i hi s;have h1:(i:Int) < l.length:=by omega
   have h6:(i:Int)+1=((i+1:Nat):Int):=by omega
   have h7:=wrap_i64 (a:=((i+1:Nat):Int)) (by have:=hx.small;omega) (by have:=hx.small;omega);obtain⟨c,hc⟩:∃c,l[i]?=some c:=⟨_,zab (by omega)⟩
   have s1:=hx.ix (i:=i) (by omega);have s2:=hx.ld hc;have e1:cv 5 262 (Y c) H=some (U64 (c.setWidth 64),H):=
    (YH (k:=.u8) (n:=(c.toNat:Int)) (H:=H)).trans (congrArg (λv=> some (v,H)) (aiC (k:=.u8) (k':=.u64) rfl c))
   have e2:bi .shl 262 (U64 s) (.s (.int .u64 8))=some (U64 (s <<< 8)):=ac5 (k:=.u64) rfl s 8 (by decide) (by decide);have e3:bi .or 262 (U64 (s <<< 8)) (U64 (c.setWidth 64))=some (U64 ((s <<< 8) ||| c.setWidth 64)):=alr (k:=.u64) rfl _ _;have hd:l.drop i=c::l.drop (i+1):=by
    rw [zaU (by omega)];rw [zab (by omega)] at hc;rw [zaT hc]
   have ih1:=ih (i+1) (by omega) ((s <<< 8) ||| c.setWidth 64);have e5:nmS s (c::l.drop (i+1))=nmS ((s <<< 8) ||| c.setWidth 64) (l.drop (i+1)):=rfl;rw [QL,hd,e5,<-ih1];simp only [xq_,h1,s1,s2,e1,e2,e3,dB,h6,h7]
   try rfl
 refine gK (ahr _ _ _ ?_);have s0:=hx.is.lnS;have k0:=key l.length 0 (by omega) 0#64;rw [zaM] at k0;simp only [xq_,abP,s0];exact k0
theorem or8 {s:BitVec 64}(c:By)(h:s.toNat < 2 ^ 56):((s <<< 8) ||| c.setWidth 64).toNat=s.toNat*256+c.toNat:=by
 have hc:=c.isLt;have h1:(s <<< 8).toNat=s.toNat <<< 8:=by
  rw [BitVec.toNat_shiftLeft,zcj];rw [zcY];omega
 have h2:(c.setWidth 64).toNat=c.toNat:=by rw [BitVec.toNat_setWidth,zcj (by omega)]
 rw [BitVec.toNat_or,h1,h2,<-Nat.shiftLeft_add_eq_or_of_lt hc,zcY]
theorem oO {N b:Nat}{s:BitVec 64}{c:By}(hs:s.toNat=N / (b*256))(hc:c.toNat=N / b % 256)(hN:N < 2 ^ 64)(hb:0 < b):((s <<< 8) ||| c.setWidth 64).toNat=N / b:=by
 have h0:N / (b*256)=N / b / 256:=(Nat.div_div_eq_div_mul N b 256).symm;have h1:N / b<=N:=Nat.div_le_self N b;rw [or8 c (by rw [hs,h0];omega),hs,hc,h0];omega
theorem WX(n:Int)(j:Nat)(hj:j+8<=64):(n / 2 ^ j) % 256=((n % 18446744073709551616) / 2 ^ j) % 256:=by
 have h64:(18446744073709551616:Int)=2 ^ j*2 ^ (64 - j):=by
  rw [<-Int.pow_add,show j+(64 - j)=64 by omega];rfl
 have h256:(2:Int) ^ (64 - j)=256*2 ^ (56 - j):=by
  rw [show 64 - j=8+(56 - j) by omega,Int.pow_add];rfl
 have hne:(2:Int) ^ j≠0:=Int.pow_ne_zero (by decide);have hq:n=n % 18446744073709551616+2 ^ j*(2 ^ (64 - j)*(n / 18446744073709551616)):=by
  rw [<-Int.mul_assoc,<-h64];exact(Int.emod_add_mul_ediv n 18446744073709551616).symm
 obtain⟨r,hr⟩:∃r,n % 18446744073709551616=r:=⟨_,rfl⟩
 obtain⟨q,hqq⟩:∃q,n / 18446744073709551616=q:=⟨_,rfl⟩
 rw [hr,hqq] at hq;rw [hr,hq,Int.add_mul_ediv_left _ _ hne,h256,Int.mul_assoc,Int.add_mul_emod_self_left]
theorem WY(n:Int)(k:Nat)(hk:k < 8){N:Nat}(hN:(N:Int)=n % 18446744073709551616):(by8 (n.fdiv (2 ^ (8*k)))).toNat=N / 2 ^ (8*k) % 256:=by
 have h:=ni (n.fdiv (2 ^ (8*k)));have hp:(0:Int)<=2 ^ (8*k):=Int.pow_nonneg (by decide);rw [zcG _ hp] at h ⊢;rw [WX n (8*k) (by omega),<-hN] at h;have h2:((N:Int) / 2 ^ (8*k)) % 256=((N / 2 ^ (8*k) % 256:Nat):Int):=by
  rw [Int.natCast_emod,Int.natCast_ediv,Int.natCast_pow];rfl
 rw [h2] at h;exact Int.ofNat_inj.1 h
theorem Zn {n:Int}(h:I64 n):nmV (qo n)=n:=by
 obtain⟨h1,h2⟩:=h;obtain⟨N,hN⟩:∃N:Nat,(N:Int)=n % 18446744073709551616:=⟨(n % 18446744073709551616).toNat,zbE (zbq _ (by decide))⟩
 have hlt:N < 2 ^ 64:=by omega
 have w:=λk hk=> WY n k hk hN;have s7:=oO (N:=N) (b:=2 ^ 56) (s:=0#64) (by rw [Nat.div_eq_of_lt (by omega)];rfl) (w 7 (by decide)) hlt (by decide);have s6:=oO (b:=2 ^ 48) s7 (w 6 (by decide)) hlt (by decide);have s5:=oO (b:=2 ^ 40) s6 (w 5 (by decide)) hlt (by decide);have s4:=oO (b:=2 ^ 32) s5 (w 4 (by decide)) hlt (by decide);have s3:=oO (b:=2 ^ 24) s4 (w 3 (by decide)) hlt (by decide);have s2:=oO (b:=2 ^ 16) s3 (w 2 (by decide)) hlt (by decide);have s1:=oO (b:=2 ^ 8) s2 (w 1 (by decide)) hlt (by decide);have s0:=oO (b:=1) s1 (w 0 (by decide)) hlt (by decide);have e:(nmS 0#64 (qo n)).toNat=N / 1:=s0;unfold nmV;rw [BitVec.toInt_eq_toNat_cond,e];split <;> omega
end
end Go.Proofs.YtgplhpgkompkmaaGreat
