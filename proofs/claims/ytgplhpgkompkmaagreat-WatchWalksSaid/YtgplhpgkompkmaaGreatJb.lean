/-
  Own work: an interpreter over named blocks, its soundness, and what the functions of this seat compute (part 2 of 12).
  Conditions: those of the statement alone.
-/
import Derived.Test.YtgplhpgkompkmaaGreatJa
set_option linter.all false
set_option linter.unusedSectionVars false
set_option linter.unusedVariables false
set_option linter.unusedSimpArgs false
namespace Go.Proofs.YtgplhpgkompkmaaGreat
noncomputable section
structure aer(P:Program)(C:aA)(ops:List Oper)(t:gG)(H:ah)(t0:gG)(H0:ah)(T:Nat->gG)(Hp:Nat->ah)(val:Nat->AV)(nm:Nat->Nat):Prop where
 facts:GU ops
 S:Cc P C ops t0 H0 T Hp val
 names:∀j,j < ops.length->cst ops j=true->∃o,ops[j]?=some o/\H.next<=nm j/\nm j < H0.next/\Qd P o (val j) (nm j) (H0.get (nm j))/\∀d,o.dst=some d->d < t.length->t0[d]?=some (val j)
 inj:∀i j,i < ops.length->j < ops.length->cst ops i=true->cst ops j=true->nm i=nm j->i=j
 rest:∀d,(∀j,cst ops j=true->∀o,ops[j]?=some o->o.dst≠some d)->t0[d]?=t[d]?
 len:t0.length=t.length
 fresh:TJ H H0
 auV:∀r,H.next<=r->H.gen r=0->H0.gen r=0
 agr:∀p∈lW ops,agree P C ops H.next t0 H0 p
 ghost:∀p,p<=ops.length->∀d,NV (Hp p).next ((T p).getD d aY)
 keeps:kQ C
section
variable {P:Program}{C:aA}{ops:List Oper}{t:gG}{H:ah}{t0:gG}{H0:ah}{T:Nat->gG}{Hp:Nat->ah}{val:Nat->AV}{nm:Nat->Nat}
theorem GX {i:Nat}(h:chn ops i=true):cst ops i=false/\flo ops i=false:=by
 unfold chn at h
 simpa using h
def kinds(i:Nat):cst ops i=true∨(cst ops i=false/\flo ops i=true)∨chn ops i=true:=by
 unfold chn;cases cst ops i <;> cases flo ops i <;> simp
def ajR {i:Nat}(h:flo ops i=true):cst ops i=false:=by
 unfold flo at h;unfold cst
 revert h
 generalize qp ops i=o;intro h;cases o <;> first|rfl|(simp only[qW]at h;cases h)
theorem wP {i:Nat}{o:Oper}(d:ops[i]?=some o)(h:flo ops i=true):qW o.op=true/\mM o.op=false:=by
 unfold flo at h;rw[uX d]at h;refine⟨h,?_⟩;obtain⟨dst,op,b,e,after,guard⟩:=o;cases op <;> try rfl
 rename_i c;simp only[qW]at h;simp only[mM];cases hc:c.callee with
 |value f=>rw[hc]at h;cases h
 |_=>rfl
namespace aer
variable (D:aer P C ops t H t0 H0 T Hp val nm)
include D
theorem get {p:Nat}(b:p<ops.length):∃o,ops[p]?=some o:=⟨_,zab b⟩
theorem arN:∀p,p<=ops.length->(T p).length=t.length:=by
 intro p
 induction p with
 | zero=> intro _;rw [D.S.zero.1,D.len]
 | succ p ih=>
  intro hp;cases hc:cst ops p with
  | true=> rw [(D.S.skip p hp hc).1];exact ih (by omega)
  | false=>
   obtain⟨o,ho⟩:=D.get hp;rw [(D.S.step p o ho hc).2,mD];exact ih (by omega)
theorem ams:∀p,p<=ops.length->∀d,d < t.length->
  (∀i o,ops[i]?=some o->o.dst=some d->(cst ops i=true∨i < p)->(T p)[d]?=some (val i))/\
  ((∀i o,ops[i]?=some o->(cst ops i=true∨i < p)->o.dst≠some d)->(T p)[d]?=t[d]?):=by
 intro p
 induction p with
 | zero=>
  intro _ d hd;rw [D.S.zero.1];refine⟨λi o ho hdst hc=> ?_,λh=> D.rest d λj hj o ho=> h j o ho (.inl hj)⟩;have hc:cst ops i=true:=hc.resolve_right (by omega);obtain⟨o',ho',_,_,_,h5⟩:=D.names i (dQ ho) hc;rw [ho] at ho';cases ho';exact h5 d hdst hd
 | succ p ih=>
  intro hp d hd;obtain⟨ih1,ih2⟩:=ih (by omega) d hd;cases hc:cst ops p with
  | true=>
   rw [(D.S.skip p hp hc).1];refine⟨λi o ho hdst hi=> ih1 i o ho hdst ?_,λh=> ih2 λi o ho hi=> h i o ho (hi.imp id λh=> by omega)⟩;rcases hi with hi | hi
   ·exact .inl hi
   ·by_cases e:i=p
    ·subst e;exact .inl hc
    ·exact .inr (by omega)
  | false=>
   obtain⟨op,hop⟩:=D.get hp;rw [(D.S.step p op hop hc).2,Nl];by_cases hdp:op.dst=some d
   ·have hl:d < (T p).length:=by rw [D.arN p (by omega)];exact hd
    rw [if_pos ⟨hdp,hl⟩];refine⟨λi o ho hdst hi=> ?_,λh=> absurd hdp (h p op hop (.inr (by omega)))⟩;rw [D.facts.arM i p o op d ho hop hdst hdp]
   ·rw [if_neg λh=> hdp h.1];refine⟨λi o ho hdst hi=> ih1 i o ho hdst ?_,λh=> ih2 λi o ho hi=> h i o ho (hi.imp id λh=> by omega)⟩;rcases hi with hi | hi
    ·exact .inl hi
    ·refine .inr ?_;have:i≠p:=λe=> by subst e;rw [ho] at hop;cases hop;exact hdp hdst
     omega
theorem VO {p:Nat}(hp:p < ops.length)(hc:cst ops p=false)(hf:flo ops p=true):Hp (p+1)=Hp p:=by
 obtain⟨o,ho⟩:=D.get hp;obtain⟨h1,_⟩:=D.S.step p o ho hc;obtain⟨f1,f2⟩:=wP ho hf;unfold mV at h1;split at h1 <;> first | (cases h1;done) | skip
 ·rw [f2,zb3,if_neg zdH] at h1;exact(Nk f1 h1).1
 ·simp only [zaa,zad] at h1;exact h1.2.symm
theorem step_next {p:Nat}(hp:p < ops.length):(Hp p).next<=(Hp (p+1)).next:=by
 cases hc:cst ops p with
 | true=> rw [(D.S.skip p hp hc).2];exact zac _
 | false=>
  obtain⟨o,ho⟩:=D.get hp;obtain⟨h1,_⟩:=D.S.step p o ho hc;unfold mV at h1;split at h1 <;> first | (cases h1;done) | skip
  ·split at h1
   ·exact(GR D.keeps h1).1.2.1
   ·exact(EM D.keeps h1).next
  ·simp only [zaa,zad] at h1;rw [h1.2];exact zac _
def ZY {p:Nat}:∀k,p+k<=ops.length->(Hp p).next<=(Hp (p+k)).next:=by
 intro k
 induction k with
 |zero=>intro _;exact zac _
 |succ k b=>intro h;exact zav (b V) (D.step_next V)
def Z4 {p q:Nat}(h:p<=q)(b:q<=ops.length):(Hp p).next<=(Hp q).next:=by
 have:=D.ZY (p:=p) (q-p) V
 rwa [show p+(q-p)=q by omega]at this
def aeu {p:Nat}(b:p<=ops.length):H0.next<=(Hp p).next:=by
 have:=D.Z4 (zaX p) b
 rwa [D.S.zero.2]at this
theorem GY {p:Nat}(hp:p < ops.length)(h:chn ops p=false):Hp (p+1)=Hp p:=by
 rcases kinds (ops:=ops) p with hc | ⟨hc,hf⟩ | hc
 ·exact(D.S.skip p hp hc).2
 ·exact D.VO hp hc hf
 ·rw [hc] at h;cases h
def aev {e:Nat}:∀k,e+k<=ops.length->(∀i,e<=i->i<e+k->chn ops i=false)->Hp (e+k)=Hp e:=by
 intro k
 induction k with
 |zero=>intro _ _;rfl
 |succ k b=>
  intro hk h;show Hp (e+k+1)=Hp e;rw[D.GY V (h (e+k) V V)];exact b V λi d g=>h i d V
def DN {e e':Nat}(h:e<=e')(b:e'<=ops.length)(d:∀i,e<=i->i<e'->chn ops i=false):Hp e'=Hp e:=by
 have:=D.aev (e:=e) (e'-e) V λi g j=>d i g V
 rwa [show e+(e'-e)=e' by omega]at this
theorem quiet_step {p:Nat}(hp:p < ops.length)(hc:chn ops p=true)(hq:uN (qp ops p)=true)(hl:loose ops p=true):∀r,r < (Hp p).next->(Hp (p+1)).get r=(Hp p).get r:=by
 obtain⟨o,ho⟩:=D.get hp;obtain⟨h1,_⟩:=D.S.step p o ho (GX hc).1;rw [uX ho] at hq;unfold mV at h1;split at h1 <;> first | (cases h1;done) | skip
 ·rw [hl,zaJ] at h1;split at h1
  ·exact(GR D.keeps h1).1.2.2
  ·rename_i hcall;exact(TL hq (by simpa using hcall) h1).2.2
 ·simp only [zaa,zad] at h1;rw [h1.2];exact λ_ _=> rfl
theorem aew {k:Nat}(hk:k < ops.length)(hc:cst ops k=true):∀e,e<=ops.length->(∀i,i < e->chn ops i=true->mW ops k i=false)->(Hp e).get (nm k)=H0.get (nm k):=by
 intro e
 induction e with
 | zero=> intro _ _;rw [D.S.zero.2]
 | succ e ih=>
  intro he h;have ih:=ih (by omega) λi hi=> h i (by omega);cases hch:chn ops e with
  | false=> rw [D.GY (by omega) hch];exact ih
  | true=>
   have hb:=h e (by omega) hch;obtain⟨hqb,_⟩:=D.facts.loose k e hk (by omega) hc hch hb;have hl:loose ops e=true:=by
    unfold loose;refine zc6.2 ⟨k,za0.2 hk,?_⟩;rw [hc,hch,hb];simp
   obtain⟨o,ho,hge,hlt,_⟩:=D.names k hk hc;rcases hqb with hq | hq
   ·rw [D.quiet_step (by omega) hch hq hl (nm k) (zax hlt (D.aeu (by omega)))];exact ih
   ·have hmem:(k,e)∈lW ops:=by
     unfold lW;refine za5.2 ⟨k,za0.2 hk,zaM.2 ⟨e,zbv.2 ⟨za0.2 (by omega),?_⟩,rfl⟩⟩;rw [hc,hch,hb,hq];simp
    have ha:=D.agr _ hmem;unfold agree at ha;rw [if_pos hc] at ha;rw [ha (T e) (Hp e) (T (e+1)) (Hp (e+1)) (D.S.at_ _ (by omega)) (D.S.at_ _ (by omega)) (nm k) hge hlt];exact ih
theorem J7 {j:Nat}(hj:j < ops.length){r:Nat}(hw:lK (T j) (qp ops j)=some r){e1:Nat}(hr:r < (Hp e1).next):
  ∀k,e1+k<=ops.length->(∀i,e1<=i->i < e1+k->chn ops i=true->Ya ops j i=true)->(Hp (e1+k)).get r=(Hp e1).get r:=by
 intro k
 induction k with
 | zero=> intro _ _;rfl
 | succ k ih=>
  intro hk h;have ih:=ih (by omega) λi h1 h2=> h i h1 (by omega);show(Hp (e1+k+1)).get r=_;cases hch:chn ops (e1+k) with
  | false=> rw [D.GY (by omega) hch];exact ih
  | true=>
   have hu:=h (e1+k) (by omega) (by omega) hch;cases hq:uN (qp ops (e1+k)) with
   | true=>
    have hl:loose ops (e1+k)=true:=by
     unfold loose;refine zc6.2 ⟨j,za0.2 hj,?_⟩;rw [hu,zcb]
    rw [D.quiet_step (by omega) hch hq hl r (zax hr (D.Z4 (by omega) (by omega)))];exact ih
   | false=>
    have hmem:(j,e1+k)∈lW ops:=by
     unfold lW;refine za5.2 ⟨j,za0.2 hj,zaM.2 ⟨e1+k,zbv.2 ⟨za0.2 (by omega),?_⟩,rfl⟩⟩;rw [hu,hq];rfl
    have hfl:flo ops j=true:=by
     unfold Ya at hu;simp only [zah] at hu;exact hu.1.1.1.2
    have ha:=D.agr _ hmem;unfold agree at ha;rw [if_neg (by rw [ajR hfl];decide)] at ha;have:=ha (T j) (Hp j) (T (e1+k)) (Hp (e1+k)) (T (e1+k+1)) (Hp (e1+k+1)) (D.S.at_ j (by omega)) (D.S.at_ _ (by omega)) (D.S.at_ _ (by omega)) r hw;rw [this];exact ih
def agJ {i j:Nat}(p:cst ops j=false)(h:mW ops i j=true)(hi:cst ops i=false):i<=j:=by
 have:=uV (ops:=ops) (L:=λk=>cst ops k=true∨k<=j) (λk o m hk e n hb=>by
  obtain⟨_,g⟩:=D.facts.edges k o m e n hb;unfold Gt at g;by_cases d:cst ops k=true
  ·by_cases b:cst ops e.on=true
   ·exact .inl b
   ·simp only[Bool.not_eq_true]at b;rw[d,b]at g;simp at g
  ·simp only[Bool.not_eq_true]at d;have hk:k<=j:=hk.resolve_left (by simp[d]);by_cases b:cst ops e.on=true
   ·exact .inl b
   ·simp only[Bool.not_eq_true]at b;rw[d,b]at g;simp at g;exact .inr V) i j h (.inr (zac _))
 rcases this with h|h
 ·rw[hi]at h;cases h
 ·exact h
end aer
abbrev Li(listed:Array Bool)(j:Nat):Prop:=listed.getD j false=true
structure Inv(ops:List Oper)(t:gG)(Hp:Nat->ah)(val:Nat->AV)(nm:Nat->Nat)(H:ah)(ρ0:Ren)(w0:World)(a0:Act)(listed:Array Bool)(a:Act)(w:World)(e:Nat)(ρ:Ren):Prop where
 size:listed.size=ops.length
 down:∀j o,ops[j]?=some o->Li listed j->∀ed∈o.after,Region.binds .any ed=true->Li listed ed.on
 le:e<=ops.length
 chain:∀i,i<ops.length->chn ops i=true->(Li listed i↔i<e)
 rel:Rel ρ (Hp e) w
 none:∀k,k<ops.length->cst ops k=true->¬Li listed k->ρ (nm k)=none
 ext:Ext ρ0 H w0 ρ (Hp e) w
 Z5:a.tmps.size=t.length
 tmps:∀d,d<t.length->(∀j o,ops[j]?=some o->Li listed j->o.dst=some d->RV ρ (Hp e).gen w (val j) (a.tmps.getD d undef))/\
  ((∀j o,ops[j]?=some o->Li listed j->o.dst≠some d)->RV ρ (Hp e).gen w (t.getD d aY) (a.tmps.getD d undef))
 defers:a.defers=a0.defers
def vZ {listed:Array Bool}{i j:Nat}:Li (listed.setIfInBounds i true) j↔Li listed j∨(j=i/\i<listed.size):=by
 unfold Li;by_cases e:i=j
 ·subst e;by_cases b:i<listed.size
  ·simp[b]
  ·simp[b]
 ·rw[getD_set_ne false e];simp[Ne.symm e]
section
variable {ρ0:Ren}{w0:World}{a0:Act}{listed:Array Bool}{a:Act}{w:World}{e:Nat}{ρ:Ren}
def zh {j:Nat}(z:listed.size=ops.length)(b:∀j o,ops[j]?=some o->Li listed j->∀d∈o.after,Region.binds .any d=true->Li listed d.on)(h:j∈Region.ready .any ops.toArray listed):
  ∃o,ops[j]?=some o/\¬Li listed j/\(∀i,i≠j->mW ops i j=true->Li listed i)/\(∀i,mW ops j i=true->¬Li listed i)/\
   ∀k e,ops[k]?=some e->Li (listed.setIfInBounds j true) k->∀d∈e.after,Region.binds .any d=true->Li (listed.setIfInBounds j true) d.on:=by
 obtain⟨u,o,g,m⟩:=mem_ready.1 h;have g:ops[j]?=some o:=by simpa using g
 have y:=dQ g;have n:¬Li listed j:=by
  unfold Li;rw[zcs]at u ⊢;rw[zbG V]at u ⊢;simp only[zat]at u ⊢;simp[u]
 have p:∀k e,ops[k]?=some e->Li (listed.setIfInBounds j true) k->∀d∈e.after,Region.binds .any d=true->Li (listed.setIfInBounds j true) d.on:=by
  intro k e hk q d w hb;rcases vZ.1 q with q|⟨rfl,_⟩
  ·exact vZ.2 (.inl (b k e hk q d w hb))
  ·rw[g]at hk;cases hk;exact vZ.2 (.inl (m d w hb))
 refine⟨o,g,n,λi v hb=>?_,λi hb q=>n (uV (L:=Li listed) b j i hb q),p⟩;have:=uV (L:=Li (listed.setIfInBounds j true)) p i j hb (vZ.2 (.inr ⟨rfl,V⟩));rcases vZ.1 this with h|⟨h,_⟩
 ·exact h
 ·exact absurd h v
variable (D:aer P C ops t H t0 H0 T Hp val nm)
include D
def auW(I:Inv ops t Hp val nm H ρ0 w0 a0 listed a w e ρ){j:Nat}{o:Oper}(E:ops[j]?=some o)(hc:cst ops j=false)(F:¬Li listed j)
  (z:∀i,i≠j->mW ops i j=true->Li listed i) (v:∀i,mW ops j i=true->¬Li listed i):TOn ρ (Hp e).gen w (· ∈o.looksAt ops.toArray) (T j) a:=by
 have hj:=dQ E;have u:=D.arN j V;refine⟨by rw[I.Z5,u],λd hd G=>?_⟩;rw[u]at G;obtain⟨L,M⟩:=I.tmps d G;obtain⟨Q,R⟩:=D.ams j V d G;have A:∀x,(T j)[d]?=some x->(T j).getD d aY=x:=λx W=>by simp[List.getD,W]
 by_cases C:∃i k,ops[i]?=some k/\Li listed i/\k.dst=some d
 ·obtain⟨i,k,m,y,g⟩:=C;have p:i≠j:=λe=>F (e ▸ y);have b:cst ops i=true∨i<j:=by
   rcases D.facts.uses i j k o d p m E g hd with⟨_,h⟩|⟨h,_⟩
   ·unfold Gt at h;rw[hc]at h;cases q:cst ops i with
    |true=>exact .inl rfl
    |false=>rw[q]at h;simp at h;exact .inr h
   ·exact absurd y (v i h)
  rw[A _ (Q i k m g b)];exact L i k m y g
 ·have n:∀i k,ops[i]?=some k->Li listed i->k.dst≠some d:=λi k X K h3=>C ⟨i,k,X,K,h3⟩;have K:=R λi k m b g=>by
   have p:i≠j:=λe=>by
    subst e;rcases b with h|h
    ·rw[hc]at h;cases h
    ·omega
   rcases D.facts.uses i j k o d p m E g hd with⟨h,_⟩|⟨_,h⟩
   ·exact n i k m (z i p h) g
   ·unfold Gt at h;rw[hc]at h;cases q:cst ops i with
    |true=>rw[q]at h;simp at h
    |false=>
     rw[q]at h b;simp at h b;omega
  have:(T j).getD d aY=t.getD d aY:=by simp only[List.getD,K]
  rw[this];exact M n
def Inv.on(I:Inv ops t Hp val nm H ρ0 w0 a0 listed a w e ρ){j:Nat}{o:Oper}(u:ops[j]?=some o)(L:¬Li listed j)
  (v:∀k G,ops[k]?=some G->Li (listed.setIfInBounds j true) k->∀K∈G.after,Region.binds .any K=true->Li (listed.setIfInBounds j true) K.on)
  {e':Nat} (y:e'<=ops.length) (z:∀i,i<ops.length->chn ops i=true->(Li (listed.setIfInBounds j true) i↔i<e'))
  {ρ':Ren} {w':World} {cv:Value} (R:Rel ρ' (Hp e') w') (Q:∀k,k<ops.length->cst ops k=true->¬Li (listed.setIfInBounds j true) k->ρ' (nm k)=Option.none)
  (E:Ext ρ0 H w0 ρ' (Hp e') w') (M:agG ρ (Hp e).gen w ρ' (Hp e').gen w') (hv:RV ρ' (Hp e').gen w' (val j) cv):Inv ops t Hp val nm H ρ0 w0 a0 (listed.setIfInBounds j true) (a.put o.dst cv) w' e' ρ' where
 size:=by rw[Array.size_setIfInBounds];exact I.size
 down:=v
 le:=y
 chain:=z
 rel:=R
 none:=Q
 ext:=E
 Z5:=by rw[<-I.Z5];cases o.dst <;> simp[Act.put]
 tmps:=λd hd=>by
  obtain⟨T,W⟩:=I.tmps d hd;have A:d<a.tmps.size:=by rw[I.Z5];exact hd
  have X:=dQ u;by_cases b:o.dst=some d
  ·have m:(a.put o.dst cv).tmps.getD d undef=cv:=by rw[b];simp[Act.put,Array.getD,A]
   rw[m];refine⟨λi q g _ p=>?_,λh=>absurd b (h j o u (vZ.2 (.inr ⟨rfl,by rw[I.size];exact X⟩)))⟩;rw[D.facts.arM i j q o d g u p b];exact hv
  ·have m:(a.put o.dst cv).tmps.getD d undef=a.tmps.getD d undef:=by
    cases C:o.dst with
    |none=>rfl
    |some d'=>
     have F:d'≠d:=λe=>b (by rw[C,e]);simp[Act.put,zbA F]
   rw[m];refine⟨λi q g n p=>?_,λh=>RV.mono M _ _ (W λi q g n=>h i q g (vZ.2 (.inl n)))⟩;rcases vZ.1 n with n|⟨rfl,_⟩
   ·exact RV.mono M _ _ (T i q g n p)
   ·rw[u]at g;cases g;exact absurd p b
 defers:=by rw[<-I.defers];cases o.dst <;> rfl
end
end
def GZ {ρ:Ren}{G:Nat->Nat}{w:World}{g:Nat}(h:ρ g=none)(co:Obj):agG ρ G w (updρ ρ g (w.heap.size,0)) G (w.alloc co) where
 mono:=λ_=>zac _
 same:=λx y d _=>by
  unfold updρ
  rw[if_neg (λe=>by subst e;rw[h]at d;cases d)];exact d
 imm:=λb hb hi=>by
  refine⟨by simp;omega,λx i d=>?_,λo=>cell?_of_block (by simp only[World.alloc,zbh,if_neg (zbZ hb)])⟩;unfold updρ at d;split at d
  ·cases d;omega
  ·exact hi x i d
 shape:=λb e m hb=>by
  have:=Gv hb;rw[fE]at hb ⊢
  simpa only[World.alloc,zbh,if_neg (zbZ this)]using hb
def Yk {ρ:Ren}{H:ah}{w:World}(R:Rel ρ H w){g:Nat}(h:ρ g=none)(p:g<H.next){ty:TypeId}{z:List AV}{cs:Array Value}(n:H.get g=.blk 0 ty z)(k:ty<gV)(m:RVs ρ H.gen w z cs.toList):
  Rel (updρ ρ g (w.heap.size,0)) H (w.alloc (.cells cs ty)) where
 out:=λx d=>by
  unfold updρ
  rw[if_neg V];exact R.out x d
 obj:=λx b s d=>by
  have M:=GZ (G:=H.gen) (w:=w) h (.cells cs ty);unfold updρ at d;by_cases e:x=g
  ·subst e;simp at d;obtain⟨rfl,rfl⟩:=d;rw[n];refine⟨cs,ty,kC w _,?_,?_,Xct.low k (by have:=dN m;rw[bM]at this;omega)⟩
   ·have:=dN m;simp at this;omega
   ·refine qY (kC w _) λi x d=>?_;obtain⟨v,hv,o⟩:=jL m d;exact⟨v,by simpa using hv,RV.mono M _ _ o⟩
  ·rw[if_neg e]at d;have hb:=R.block d;exact yR.mono M (by simp only[World.alloc,zbh,if_neg (zbZ hb)]) (R.obj x b s d)
 inj:=λx y q s u d j=>by
  unfold updρ at d j;split at d <;> split at j
  ·simp_all
  ·cases d;have:=R.block j;omega
  ·cases j;have:=R.block d;omega
  ·exact R.inj _ _ _ _ _ d j
 gl:=R.gl.of O (λx b s d=>by
  unfold updρ at d;split at d
  ·cases d;exact .inl (zac _)
  ·exact .inr ⟨_,_,d⟩) (λb hb _=>by simp only[World.alloc,zbh,if_neg (zbZ hb)])
def Yl {ρ0 ρ:Ren}{H0 H:ah}{w0 w:World}(E:Ext ρ0 H0 w0 ρ H w){r0:Nat}(h0:H0.next<=r0)(hn:ρ r0=none)(co:Obj):Ext ρ0 H0 w0 (updρ ρ r0 (w.heap.size,0)) H (w.alloc co) where
 next:=E.next
 mono:=E.mono
 same:=λx y hx hg=>by
  have h1:=E.same x y hx hg;unfold updρ
  rw[if_neg (λe=>by subst e;rw[hn]at h1;cases h1)];exact h1
 kept:=λx hx h=>by
  unfold updρ
  rw[if_neg (by omega)];exact E.kept x hx h
 range:=λx b s hx=>by
  unfold updρ at hx;split at hx
  ·cases hx;exact .inl E.size
  ·exact E.range x b s hx
 size:=by simp;have:=E.size;omega
 frame:=λb hb hi=>by
  have:=E.size;rw[<-E.frame b hb hi];simp only[World.alloc,zbh,if_neg (show¬b=w.heap.size by omega)]
 shape:=λb hb=>by
  have:=E.size;rw[<-E.shape b hb,fE,fE];simp only[World.alloc,zbh,if_neg (show¬b=w.heap.size by omega)]
 os:=E.os
 tape:=E.tape
 output:=E.output
def Qh {ρ:Ren}{H H0:ah}{w:World}(R:Rel ρ H w)(F:TJ H H0)(g:∀r,H.next<=r->H.gen r=0->H0.gen r=0):H0.gen=H.gen/\Rel ρ H0 w/\Ext ρ H w ρ H0 w:=by
 have d:H0.gen=H.gen:=by
  funext r
  rcases zaU r H.next with h|h
  ·simp only[ah.gen,F.2.2 r h]
  ·rw[g r h (R.out r h).2,(R.out r h).2]
 have E:=Ext.refl ρ H w;refine⟨d,⟨λr e=>⟨(R.out r (zav F.2.1 e)).1,by rw[d];exact(R.out r (zav F.2.1 e)).2⟩,λr b i h=>?_,R.inj,R.gl⟩,
  ⟨F.2.1,λr=>by rw[d];exact zac _,λr x h _=>h,E.kept,E.range,E.size,E.frame,E.shape,E.os,E.tape,E.output⟩⟩
 rw[d,F.2.2 r (R.lt h)];exact R.obj r b i h
section
variable {P:Program}{C:aA}{ops:List Oper}{t:gG}{H:ah}{t0:gG}{H0:ah}{T:Nat->gG}{Hp:Nat->ah}{val:Nat->AV}{nm:Nat->Nat}
variable {ρ0:Ren}{w0:World}{a0:Act}{listed:Array Bool}{a:Act}{w:World}{e:Nat}{ρ:Ren}
def TN {j k:Nat}(h:¬Li (listed.setIfInBounds j true) k):¬Li listed k:=λb=>h (vZ.2 (.inl b))
def G8 {j i:Nat}(b:i≠j):Li (listed.setIfInBounds j true) i↔Li listed i:=by
 rw[vZ];exact⟨λh=>h.resolve_right λh=>b h.1,.inl⟩
theorem aex(hC:qQ P C)(D:aer P C ops t H t0 H0 T Hp val nm)(I:Inv ops t Hp val nm H ρ0 w0 a0 listed a w e ρ){j:Nat}(hr:j∈Region.ready .any ops.toArray listed){K:Act->World->Prop}{Q:Exit->Act->World->Prop}
  (hK:∀a' w' e' ρ',Inv ops t Hp val nm H ρ0 w0 a0 (listed.setIfInBounds j true) a' w' e' ρ'->K a' w'):wpOp P ops.toArray Q j K a w:=by
 obtain⟨o,ho,hnl,hpre,hpost,hd2⟩:=zh I.size I.down hr;have hj:=dQ ho;rcases kinds (ops:=ops) j with hc | ⟨hc,hf⟩ | hc
 ·-- new memory
  obtain⟨o',ho',n1,n2,⟨ty,z,mk,hval,hob,hrun⟩,_⟩:=D.names j hj hc;rw [ho] at ho';cases ho';obtain⟨hg,_⟩:=D.facts.const j o ho hc;obtain⟨cs,cv,h1,⟨h2,hty⟩,h3⟩:=hrun ρ (Hp e).gen w a;have hun:=I.none j hj hc hnl;have tV:(Hp e).get (nm j)=.blk 0 ty z:=by
   rw [<-hob];refine D.aew hj hc e I.le λi hi hch=> ?_;have hli:=(I.chain i (by have:=I.le;omega) hch).2 hi;cases hb:mW ops j i with
   | false=> rfl
   | true=> exact absurd hli (hpost i hb)
  have hgen:(Hp e).gen (nm j)=0:=by simp [ah.gen,tV,gB.gen]
  unfold wpOp;have hoa:ops.toArray[j]?=some o:=by simpa using ho
  simp only [hoa,Region.wanted,hg,if_true];left;unfold Oper.wp;rw [h1];simp only [Oper.upon];refine hK _ _ e (updρ ρ (nm j) (w.heap.size,0)) (Inv.on D I ho hnl hd2 I.le (λi hi hch=> ?_)
   (Yk I.rel hun (zax n2 (D.aeu I.le)) tV hty h2) (λk hk hck hkl=> ?_) (Yl I.ext n1 hun _) (GZ hun _) ?_)
  ·rw [G8 (λe=> by subst e;rw [(GX hch).1] at hc;cases hc)];exact I.chain i hi hch
  ·have hkl':=TN hkl;have hne:nm k≠nm j:=λe=> by
    have:=D.inj k j hk hj hck hc e;subst this;exact hkl (vZ.2 (.inr ⟨rfl,by rw [I.size];exact hk⟩))
   unfold updρ
   rw [if_neg hne];exact I.none k hk hck hkl'
  ·rw [hval];exact h3 _ _ (nm j) hgen (by simp [updρ])
 ·-- it changes nothing
  have T0:=auW D I ho hc hnl hpre hpost;obtain⟨s1,_⟩:=D.S.step j o ho hc;obtain⟨f1,f2⟩:=wP ho hf;have hsame:MK o.op=true->∀r,lK (T j) o.op=some r->(Hp e).get r=(Hp j).get r:=by
   intro hlk r hw;have hre:r < (Hp e).next:=VN (λx hx=> RV.nv I.rel.out _ _ (T0.eval x hx)) hw
   have hrj:r < (Hp j).next:=VN (λx _=> aep (D.ghost j (by omega)) x) hw
   have hw':lK (T j) (qp ops j)=some r:=by rw [uX ho];exact hw
   have hle:=I.le;have hun:∀i,i < ops.length->chn ops i=true->mW ops i j=false->mW ops j i=false->Ya ops j i=true:=by
    intro i _ hch hb1 hb2;unfold Ya;rw [hch,hf,uX ho,hlk,hb2,hb1];rfl
   rcases Nat.le_total e j with hej | hje
   ·have:=D.J7 hj hw' hre (j - e) (by omega) λi h1 h2 hch=> by
     have hil:¬Li listed i:=λhl=> by have:=(I.chain i (by omega) hch).1 hl;omega
     have hne:i≠j:=by omega
     refine hun i (by omega) hch ?_ ?_
     ·cases hb:mW ops i j with
      | false=> rfl
      | true=> exact absurd (hpre i hne hb) hil
     ·cases hb:mW ops j i with
      | false=> rfl
      | true=> have:=D.agJ (GX hch).1 hb hc;omega
    rw [show e+(j - e)=j by omega] at this;exact this.symm
   ·have:=D.J7 hj hw' hrj (e - j) (by omega) λi h1 h2 hch=> by
     have hil:Li listed i:=(I.chain i (by omega) hch).2 (by omega);have hne:i≠j:=λe=> by subst e;rw [(GX hch).2] at hf;cases hf
     refine hun i (by omega) hch ?_ ?_
     ·cases hb:mW ops i j with
      | false=> rfl
      | true=> have:=D.agJ hc hb (GX hch).1;omega
     ·cases hb:mW ops j i with
      | false=> rfl
      | true=> exact absurd hil (hpost i hb)
    rw [show j+(e - j)=e by omega] at this;exact this
  have hs:mV P C ops (loose ops j && mM o.op) o (T j) (Hp e)=some (val j,Hp e):=by
   have avn:=D.VO hj hc hf;rw [avn] at s1;unfold mV at s1 ⊢;split at s1 <;> first | (cases s1;done) | skip
   ·rw [f2,zb3,if_neg zdH] at s1;simp only [f2,zb3,if_neg zdH];exact(Nk f1 s1).2 (Hp e) hsame
   ·simp only [zaa,zad] at s1 ⊢;exact⟨s1.1,trivial⟩
  refine Np hC hs I.rel T0 ho λcv ρ' w' r1 r2 r3=> hK _ _ e ρ' (Inv.on D I ho hnl hd2 I.le (λi hi hch=> ?_) r1 (λk hk hck hkl=> ?_) (I.ext.trans r3) r3.toMono r2)
  ·rw [G8 (λe=> by subst e;rw [(GX hch).2] at hf;cases hf)];exact I.chain i hi hch
  ·obtain⟨_,_,_,n2,_⟩:=D.names k hk hck;exact r3.kept _ (zax n2 (D.aeu I.le)) (I.none k hk hck (TN hkl))
 ·-- the chain
  have hcc:=(GX hc).1;have T0:=auW D I ho hcc hnl hpre hpost;obtain⟨s1,_⟩:=D.S.step j o ho hcc;have hej:e<=j:=by
   rcases zaU j e with h | h
   ·exact absurd ((I.chain j hj hc).2 h) hnl
   ·exact h
  have hH:Hp j=Hp e:=D.DN hej (by omega) λi h1 h2=> by
   cases hch:chn ops i with
   | false=> rfl
   | true=>
    have:=hpre i (by omega) (D.facts.chain i j h2 hj hch hc);have:=(I.chain i (by omega) hch).1 this;omega
  rw [hH] at s1;refine Np hC s1 I.rel T0 ho λcv ρ' w' r1 r2 r3=> hK _ _ (j+1) ρ' (Inv.on D I ho hnl hd2 hj (λi hi hch=> ?_) r1 (λk hk hck hkl=> ?_) (I.ext.trans r3) r3.toMono r2)
  ·by_cases e1:i=j
   ·subst e1;exact⟨λ_=> by omega,λ_=> vZ.2 (.inr ⟨rfl,by rw [I.size];exact hi⟩)⟩
   ·rw [G8 e1];refine⟨λhl=> by have:=(I.chain i hi hch).1 hl;omega,λhlt=> hpre i e1 (D.facts.chain i j (by omega) hj hch hc)⟩
  ·obtain⟨_,_,_,n2,_⟩:=D.names k hk hck;exact r3.kept _ (zax n2 (D.aeu I.le)) (I.none k hk hck (TN hkl))
def unl:List Bool->Nat
 |[]=>0
 |true::l=>unl l
 |false::l=>unl l+1
def Z7:∀(l:List Bool) (i:Nat),l[i]?=some false->unl (l.set i true)+1=unl l
 |[],i,h=>by simp at h
 |b::l,0,h=>by simp at h;subst h;simp[unl]
 |b::l,i+1,h=>by
  simp at h;have:=Z7 l i (by simpa using h);cases b <;> simp[unl] <;> omega
def VP:∀(l:List Bool),unl l=0->∀(i:Nat),i<l.length->l[i]?=some true
 |[],_,i,hi=>by simp at hi
 |b::l,h,0,_=>by cases b <;> simp_all[unl]
 |b::l,h,i+1,hi=>by
  have d:unl l=0:=by cases b <;> simp_all[unl]
  simpa using VP l d i (by simpa using hi)
def amu {j:Nat}(b:j<listed.size):Li listed j↔listed.toList[j]?=some true:=by
 unfold Li;simp[Array.getD,b]
def Ym {j:Nat}(b:j<listed.size):¬Li listed j↔listed.toList[j]?=some false:=by
 unfold Li;simp[Array.getD,b]
def ajS {p:Nat->Prop}:∀n,p n->∃m,p m/\∀i,i<m->¬p i:=by
 intro n
 induction n using Nat.strongRecOn with
 |ind n d=>
  intro e;by_cases h:∃i,i<n/\p i
  ·obtain⟨i,hi,b⟩:=h;exact d i hi b
  ·exact⟨n,e,λi hi b=>h ⟨i,hi,b⟩⟩
def Qi(F:GU ops)(E:listed.size=ops.length){k:Nat}(hk:k<ops.length)(y:¬Li listed k):Region.ready .any ops.toArray listed≠[]:=by
 have key:∀m,m<ops.length->¬Li listed m->(∀o,ops[m]?=some o->∀e∈o.after,Region.binds .any e=true->Li listed e.on)->Region.ready .any ops.toArray listed≠[]:=by
  intro m hm u n q;have:m∈Region.ready .any ops.toArray listed:=by
   refine mem_ready.2 ⟨?_,ops[m]'hm,by simp[hm],λe i z=>n _ (zab hm) e i z⟩;unfold Li at u;rw[zcs]at u ⊢;rw[zbG V]at u ⊢
   simpa using u
  rw[q]at this;cases this
 by_cases g:∃m,m<ops.length/\cst ops m=true/\¬Li listed m
 ·obtain⟨m,hm⟩:=g;obtain⟨m,⟨i,z,v⟩,d⟩:=ajS (p:=λm=>m<ops.length/\cst ops m=true/\¬Li listed m) m hm;refine key m i v λo A e n hb=>?_;obtain⟨w,b⟩:=F.edges m o A e n hb;unfold Gt at b;rw[z]at b;cases h:cst ops e.on with
  |false=>rw[h]at b;simp at b
  |true=>
   rw[h]at b;simp at b;by_cases j:Li listed e.on
   ·exact j
   ·exact absurd ⟨w,h,j⟩ (d e.on b)
 ·obtain⟨m,⟨i,v⟩,d⟩:=ajS (p:=λm=>m<ops.length/\¬Li listed m) k ⟨hk,y⟩;refine key m i v λo A e n hb=>?_;obtain⟨w,b⟩:=F.edges m o A e n hb;by_cases j:Li listed e.on
  ·exact j
  ·exfalso;have C:cst ops m=false:=by cases hc:cst ops m with
    |false=>rfl
    |true=>exact absurd ⟨m,i,hc,v⟩ g
   have D:cst ops e.on=false:=by cases hc:cst ops e.on with
    |false=>rfl
    |true=>exact absurd ⟨_,w,hc,j⟩ g
   unfold Gt at b;rw[C,D]at b;simp at b;exact d e.on b ⟨w,j⟩
def ajT(D:aer P C ops t H t0 H0 T Hp val nm)(I:Inv ops t Hp val nm H ρ0 w0 a0 listed a w e ρ)(j:∀i,i<ops.length->Li listed i):
  Rel ρ (Hp ops.length) w/\TOn ρ (Hp ops.length).gen w (λ_=>True) (T ops.length) a/\Ext ρ0 H w0 ρ (Hp ops.length) w:=by
 have o:Hp ops.length=Hp e:=D.DN I.le (zac _) λi b g=>by
  cases m:chn ops i with
  |false=>rfl
  |true=>have:=(I.chain i g m).1 (j i g);omega
 rw[o];refine⟨I.rel,⟨by rw[I.Z5,D.arN _ (zac _)],λd _ hd=>?_⟩,I.ext⟩;rw[D.arN _ (zac _)]at hd;obtain⟨p,q⟩:=I.tmps d hd;obtain⟨u,v⟩:=D.ams _ (zac _) d hd;by_cases k:∃(i:Nat) (h:Oper),ops[i]?=some h/\h.dst=some d
 ·obtain⟨i,h,b,g⟩:=k;have n:=u i h b g (.inr (dQ b));have:(T ops.length).getD d aY=val i:=by simp[List.getD,n]
  rw[this];exact p i h b (j i (dQ b)) g
 ·have n:=v λi h b _ g=>k ⟨i,h,b,g⟩;have:(T ops.length).getD d aY=t.getD d aY:=by simp only[List.getD,n]
  rw[this];exact q λi h b _ g=>k ⟨i,h,b,g⟩
def agK(u:qQ P C)(D:aer P C ops t H t0 H0 T Hp val nm){Q:Exit->Act->World->Prop}
  (v:∀a' ρ' w',Rel ρ' (Hp ops.length) w'->TOn ρ' (Hp ops.length).gen w' (λ_=>True) (T ops.length) a'->Ext ρ0 H w0 ρ' (Hp ops.length) w'->a'.defers=a0.defers->Q .normal a' w'):
  ∀(b:Nat) (listed:Array Bool) (a:Act) (w:World) (e:Nat) (ρ:Ren),unl listed.toList<=b->Inv ops t Hp val nm H ρ0 w0 a0 listed a w e ρ->wpAny P .any ops.toArray Q b listed a w:=by
 have h:∀(listed:Array Bool) (a:Act) (w:World) (e:Nat) (ρ:Ren),Inv ops t Hp val nm H ρ0 w0 a0 listed a w e ρ->Region.ready .any ops.toArray listed=[]->Q .normal a w:=by
  intro listed a w e ρ I d;have k:∀i,i<ops.length->Li listed i:=λi hi=>by
   by_cases q:Li listed i
   ·exact q
   ·exact absurd d (Qi D.facts I.size hi q)
  obtain⟨y,z,A⟩:=ajT D I k;exact v a ρ w y z A I.defers
 intro b
 induction b with
 |zero=>
  intro listed a w e ρ E I;have d:Region.ready .any ops.toArray listed=[]:=by
   cases F:Region.ready .any ops.toArray listed with
   |nil=>rfl
   |cons j M=>
    obtain⟨o,n,g,_⟩:=zh I.size I.down (j:=j) (by rw[F];simp);have m:j<listed.size:=by rw[I.size];exact dQ n
    exact absurd ((amu m).2 (VP _ V j (by simpa using m))) g
  exact⟨d,h listed a w e ρ I d⟩
 |succ b G=>
  intro listed a w e ρ E I;refine⟨h listed a w e ρ I,λj m=>aex u D I m λa' w' K ρ' L=>G _ a' w' K ρ' ?_ L⟩;obtain⟨o,n,g,_⟩:=zh I.size I.down m;have p:j<listed.size:=by rw[I.size];exact dQ n
  have:=Z7 _ j ((Ym p).1 g);rw[Array.toList_setIfInBounds];omega
def Aa(n:Nat):unl (List.replicate n false)=n:=by
 induction n with
 |zero=>rfl
 |succ n b=>simp[List.replicate_succ,unl,b]
def ajU(G:qQ P C)(K:kQ C)(hm:P.follows .mixedOrders=true){id:Nat}{t':gG}{H':ah}(h:y7 P C ops t H=some (t',H'))(R:Rel ρ H w)(L:TOn ρ H.gen w (λ_=>True) t a){Q:Exit->Act->World->Prop}
  (hQ:∀a' ρ' w',Rel ρ' H' w'->TOn ρ' H'.gen w' (λ_=>True) t' a'->Ext ρ H w ρ' H' w'->a'.defers=a.defers->Q .normal a' w'):(Code.region id ops.toArray true).wp P Q a w:=by
 unfold y7 at h;split at h <;> first|(cases h;done)|skip
 rename_i M;split at h <;> first|(cases h;done)|skip
 rename_i t0 H0 v;obtain⟨y,W⟩:fZ P C ops (mX ops) t0 H0=some (t',H')/\∀p∈lW ops,agree P C ops H.next t0 H0 p:=by
  split at h
  ·rename_i he;rw[he];exact⟨h,O⟩
  ·split at h <;> first|(cases h;done)|skip
   rename_i ha;exact⟨h,ha⟩
 have F:=DL M;have b:∀j,j∈oL ops↔j<ops.length/\cst ops j=true:=λj=>by simp[oL,zbv,za0]
 obtain⟨hf,hg,z,nm,vl,h1,h2,h3⟩:=uY (oL ops) t H t0 H0 (List.nodup_range.filter _) (λj n=>((b j).1 n).2)
  (λi _ j _ oi oj d a1 a2 a3 a4=>F.arM i j oi oj d a1 a2 a3 a4) v
 obtain⟨T,Hp,val,S,g,m⟩:=J5 y vl;obtain⟨A,X,aa⟩:=Qh R hf hg;obtain⟨ρ1,w1,a1,g1,g2⟩:=zf G _ _ _ _ _ ρ w a v R L;have D:aer P C ops t H t0 H0 T Hp val nm:={
  facts:=F
  S:=S
  names:=λj n hc=>by
   obtain⟨o,E,q2,q3,q4,q5⟩:=h1 j ((b j).2 ⟨n,hc⟩);exact⟨o,E,q2,q3,by rw[m j hc];exact q4,λd hd q=>by rw[m j hc];exact q5 d hd q⟩
  inj:=λi j hi n ci cj e=>h2 i ((b i).2 ⟨hi,ci⟩) j ((b j).2 ⟨n,cj⟩) e
  rest:=λd hd=>h3 d λj n o ho=>hd j ((b j).1 n).2 o ho
  len:=z
  fresh:=hf
  auV:=hg
  agr:=W
  ghost:=λp hp d=>by
   obtain⟨ρ2,w2,a2,r1,r2⟩:=J6 G S g1 g2 p hp;exact RV.nv r1.out _ _ (r2.any d trivial)
  keeps:=K }
 have e1:T ops.length=t':=by rw[<-Prod.mk.inj g |>.1]
 have e2:Hp ops.length=H':=by rw[<-Prod.mk.inj g |>.2]
 refine wp_region_any hm ?_;have u:∀j,¬Li (Array.replicate ops.toArray.size false) j:=λj=>by
  unfold Li;simp[Array.getD]
 refine agK G D (a0:=a) (λa' ρ' w' E q2 q3 q4=>hQ a' ρ' w' (by rw[<-e2];exact E) (by rw[<-e1,<-e2];exact q2) (by rw[<-e2];exact q3) q4) ops.toArray.size _ a w.drew 0 ρ (by simp[Aa]) ?_;refine⟨O,λj o _ q=>absurd q (u j),zaX _,λi _ _=>⟨λq=>absurd q (u i),λh=>V⟩,by rw[S.zero.2];exact X.drew,λk hk hc _=>?_,?_,L.size,λd hd=>⟨λj o _ q=>absurd q (u j),λ_=>?_⟩,rfl⟩
 ·obtain⟨_,_,E,_⟩:=D.names k hk hc;exact(R.out _ E).1
 ·rw[S.zero.2];exact aa.trans (Ext.drew ρ H0 w)
 ·rw[S.zero.2,A];exact RV.mono (Ext.drew ρ H w).toMono _ _ (L.get d trivial hd)
end
section
variable {ρ ρ1:Ren}{G:Nat->Nat}{H1:ah}{w1:World}{n:Nat}
def Ac {f:AV->Option AV}(j:∀x k cv,f x=some k->RV ρ1 H1.gen w1 x cv->RV ρ G w1 k cv):∀(xs d:List AV) (l:List Value),xs.mapM f=some d->RVs ρ1 H1.gen w1 xs l->RVs ρ G w1 d l
 |[],d,l,h,e=>by
  simp at h;subst h
  simpa only[RVs]using e
 |x::xs,d,l,h,e=>by
  rw[zbC]at h;cases g:f x with
  |none=>rw[g]at h;cases h
  |some y=>
   rw[g]at h;cases i:xs.mapM f with
   |none=>rw[i]at h;cases h
   |some m=>
    rw[i]at h;simp only[zbY,za4,zcv,zaa]at h;subst h;simp only[RVs]at e ⊢;obtain⟨v,vs,rfl,a,b⟩:=e;exact⟨v,vs,rfl,j _ _ _ g a,Ac j xs m vs i b⟩
def EN {f:AV->Option AV}(k:∀x m cv,f x=some m->RV ρ1 H1.gen w1 x cv->RV ρ G w1 m cv):∀(xs d:List AV) (b o:Nat),xs.mapM f=some d->RVc ρ1 H1.gen w1 xs b o->RVc ρ G w1 d b o
 |[],d,b,o,h,g=>by
  simp at h;subst h;simp only[RVc]
 |x::xs,d,b,o,h,g=>by
  rw[zbC]at h;cases i:f x with
  |none=>rw[i]at h;cases h
  |some y=>
   rw[i]at h;cases j:xs.mapM f with
   |none=>rw[j]at h;cases h
   |some n=>
    rw[j]at h;simp only[zbY,za4,zcv,zaa]at h;subst h;simp only[RVc]at g ⊢;obtain⟨⟨v,e,a⟩,c⟩:=g;exact⟨⟨v,e,k _ _ _ i a⟩,EN k xs n b (o+1) j c⟩
def zo {f:AV->Option AV}:∀(xs b:List AV),xs.mapM f=some b->b.length=xs.length
 |[],b,h=>by simp at h;subst h;rfl
 |x::xs,b,h=>by
  rw[zbC]at h;cases e:f x with
  |none=>rw[e]at h;cases h
  |some y=>
   rw[e]at h;cases d:xs.mapM f with
   |none=>rw[d]at h;cases h
   |some g=>
    rw[d]at h;simp only[zbY,za4,zcv,zaa]at h;subst h;simp[zo xs g d]
def Z8(X:Rel ρ1 H1 w1)(j:∀r,r<n->ρ r=ρ1 r/\G r=H1.gen r)(w:∀r,n<=r->ρ r=none):
  ∀(d:Nat) (x F:AV) (cv:Value),bV H1 n d x=some F->RV ρ1 H1.gen w1 x cv->RV ρ G w1 F cv:=by
 have y:∀b,Imm ρ1 b->Imm ρ b:=by
  intro b hi r H m;rcases zaU r n with h|h
  ·rw[(j r h).1]at m;exact hi r H m
  ·rw[w r h]at m;cases m
 intro d
 induction d with
 |zero=>intro x F cv h;cases h
 |succ d u=>
  intro x F cv h hv;cases x with
  |s v=>simp only[bV,zaa]at h;subst h;simpa only[RV]using hv
  |ref r g off=>
   simp only[bV]at h;split at h <;> first|(cases h;done)|skip
   rename_i m;simp only[zaa]at h;subst h;obtain⟨z,A⟩:=j r m;simp only[RV]at hv ⊢;rw[z,A];exact hv
  |mp r=>
   simp only[bV]at h;split at h <;> first|(cases h;done)|skip
   rename_i m;simp only[zaa]at h;subst h;obtain⟨z,A⟩:=j r m;simp only[RV]at hv ⊢;rw[z,A];exact hv
  |sl r g off C len ab ex=>
   simp only[bV]at h;split at h
   ·rename_i m;simp only[zaa]at h;subst h;obtain⟨z,A⟩:=j r m;simp only[RV]at hv ⊢;rw[z,A];exact hv
   ·rename_i m;split at h <;> first|(cases h;done)|skip
    rename_i cells i;cases hm:cells.mapM (bV H1 n d)with
    |none=>rw[hm]at h;cases h
    |some l=>
     rw[hm]at h;simp only[zaj,zaa]at h;subst h;simp only[cZ]at i;split at i <;> first|(cases i;done)|skip
     rename_i g' ty all ho;split at i <;> first|(cases i;done)|skip
     rename_i hc;obtain⟨rfl,ad⟩:=hc;simp only[zaa]at i;simp only[RV]at hv ⊢;obtain⟨b,o,c,rfl,q1,q2,q3,q4,q5⟩:=hv;obtain⟨H,e,k,D,K,ae,aa⟩:=q5 (by simp[ah.gen,ho,gB.gen]);have tV:=X.obj r b H D;simp only[yR,ho]at tV;obtain⟨cs,e',hb,hz,L,_⟩:=tV;have M:cells.length=len*C:=by rw[<-i];simp;omega
     refine⟨b,o,c,rfl,V,by rw[zo _ _ hm,M],nV hb,λr' Q p=>?_,?_⟩
     ·rcases zaU r' n with R|R
      ·rw[(j r' R).1]at p;have:=X.inj r' r b Q H p D;omega
      ·rw[w r' R]at p;cases p
     ·refine EN u cells l b o hm ?_;by_cases h0:c=0
      ·have:len=0:=V
       subst this;rw[<-i];simp[RVc]
      ·rw[K V,<-i];exact uO _ (qX off L)
  |ip cells=>
   simp only[bV]at h;cases hm:cells.mapM (bV H1 n d)with
   |none=>rw[hm]at h;cases h
   |some l=>
    rw[hm]at h;simp only[zaj,zaa]at h;subst h;simp only[RV]at hv ⊢;obtain⟨b,o,e,q,E,T⟩:=hv;exact⟨b,o,e,q,y b E,EN u cells l b o hm T⟩
  |vs k C cells=>
   simp only[bV]at h;cases hm:cells.mapM (bV H1 n d)with
   |none=>rw[hm]at h;cases h
   |some l=>
    rw[hm]at h;simp only[zaj,zaa]at h;subst h;simp only[RV]at hv ⊢;obtain⟨b,o,c,e,h0,W,q,E,T⟩:=hv;exact⟨b,o,c,e,h0,by rw[zo _ _ hm];exact W,q,y b E,EN u cells l b o hm T⟩
  |fn f a c=>
   simp only[bV]at h;split at h <;> first|(cases h;done)|skip
   rename_i a' c' ha hc;simp only[zaa]at h;subst h;simp only[RV]at hv ⊢;obtain⟨a0,c0,e,q,E⟩:=hv;exact⟨a0,c0,e,Ac u _ _ _ ha q,Ac u _ _ _ hc E⟩
  |agg cells=>
   simp only[bV]at h;cases hm:cells.mapM (bV H1 n d)with
   |none=>rw[hm]at h;cases h
   |some l=>
    rw[hm]at h;simp only[zaj,zaa]at h;subst h;simp only[RV]at hv ⊢;obtain⟨cs,e,q⟩:=hv;exact⟨cs,e,Ac u _ _ _ hm q⟩
  |tup cells=>
   simp only[bV]at h;cases hm:cells.mapM (bV H1 n d)with
   |none=>rw[hm]at h;cases h
   |some l=>
    rw[hm]at h;simp only[zaj,zaa]at h;subst h;simp only[RV]at hv ⊢;obtain⟨cs,e,q⟩:=hv;exact⟨cs,e,Ac u _ _ _ hm q⟩
end
def Z9 {ρ ρ1:Ren}{H H1:ah}{w w1:World}(R:Rel ρ H w)(K:Keeps H.guard H1)(F:Rel ρ1 H1 w1)(E:Ext ρ H w ρ1 H1 w1){d:Nat}{x u:AV}{cv:Value}
  (W:bV H1 H.next d x=some u) (hv:RV ρ1 H1.gen w1 x cv):Rel ρ H w1/\RV ρ H.gen w1 u cv/\Ext ρ H w ρ H w1:=by
 have n:∀r,r<H.next->H1.get r=H.get r:=λr i=>K.get r i i
 have j:∀r,r<H.next->H1.gen r=H.gen r:=λr i=>by simp only[ah.gen,n r i]
 have m:∀r,r<H.next->ρ r=ρ1 r/\H.gen r=H1.gen r:=by
  intro r i;refine⟨?_,(j r i).symm⟩;cases h:ρ r with
  |none=>exact(E.kept r i h).symm
  |some x=>exact(E.same r x h (j r i)).symm
 have v:∀r,H.next<=r->ρ r=none:=λr i=>(R.out r i).1
 have y:=Z8 (G:=H.gen) F m v d x u cv W hv;have L:Ext ρ H w ρ H w1:=⟨zac _,λ_=>zac _,λ_ _ h _=>h,λ_ _ h=>h,λ_ _ sh h=>.inr ⟨sh,h⟩,E.size,E.frame,E.shape,E.os,E.tape,E.output⟩
 refine⟨⟨R.out,λr b sh h=>?_,R.inj,R.gl.ext L⟩,y,L⟩;have i:=R.lt h;have o:=F.obj r b sh (by rw[<-(m r i).1];exact h);rw[n r i]at o;have p:=R.obj r b sh h
 -- the object as it was,in the new world
 have M:Back H.next ρ1 H1.gen ρ H.gen:=⟨λr i=>(j r i).symm,λr i=>.inr (m r i).1,λr x Q=>by
  have:=R.lt (b:=x.1) (sh:=x.2) Q;rw[<-(m r this).1];exact Q⟩
 unfold yR at o p ⊢;cases T:H.get r with
 |blk g ty cells=>
  rw[T]at o p;obtain⟨cs,e,z,A,q⟩:=o;obtain⟨_,_,_,_,C,_⟩:=p;exact⟨cs,e,z,A,RVc.back M R.out cells b sh b sh C q.1,q.2⟩
 |map k X=>
  rw[T]at o p;obtain⟨D,dM,z,A,q⟩:=o;obtain⟨_,_,_,_,C,_⟩:=p;exact⟨D,dM,z,A,RVm.back M R.out X _ _ C q.1,q.2⟩
inductive Ex where
 |normal
 |exit (id:Nat)
 |ret
def Ex.to:Ex->Exit
 |.normal=>.normal
 |.exit id=>.exit id
 |.ret=>.ret
abbrev Res:=Option (Ex × gG × ah)
abbrev Run:=gG->ah->Res
def sH(r:Res)(k:Run):Res:=
 match r with
 |some (.normal,t,H)=>k t H
 |some (.exit i,t,H)=>some (.exit i,t,H)
 |some (.ret,t,H)=>some (.ret,t,H)
 |none=>none
def DR(id:Nat)(r:Res):Res:=
 match r with
 |some (.exit i,t,H)=>if i=id then some (.normal,t,H)else some (.exit i,t,H)
 |some (.normal,t,H)=>some (.normal,t,H)
 |some (.ret,t,H)=>some (.ret,t,H)
 |none=>none
def Ce(f:Run):Nat->Run
 |0,_,_=>none
 |n+1,t,H=>sH (f t H) (Ce f n)
open Classical in
def ajV {α:Type}(g:Nat->Option α):Option α:=if h:∃n,(g n).isSome=true then g (Classical.choose h)else none
def Yn(f:Run):Run:=λt H=>ajV λn=>Ce f n t H
def fF(P:Program)(C:aA):Code->Run
 |.skip=>λt H=>some (.normal,t,H)
 |.region _ ops draw=>λt H=>match(if draw then y7 P C ops.toList t H else PW P C ops.toList ops.toList t H)with
  |some (t',H')=>some (.normal,t',H')
  |none=>none
 |.seq a b=>λt H=>sH (fF P C a t H) (fF P C b)
 |.cond c a b=>λt H=>match dS t c with
  |.s (.bool true)=>fF P C a t H
  |.s (.bool false)=>fF P C b t H
  |_=>none
 |.block id c=>λt H=>DR id (fF P C c t H)
 |.loop c=>Yn (fF P C c)
 |.exit id=>λt H=>some (.exit id,t,H)
 |.ret=>λt H=>some (.ret,t,H)
 |_=>λ_ _=>none
def VQ(P:Program)(t:gG)(H:ah):ResultVar->Option AV
 |.tmp d=>some (t.getD d aY)
 |.cell a b=>(Tj P b (t.getD a aY) H).map (·.1)
def jC(P:Program)(b:List ResultVar)(t:gG)(H:ah):Option AV:=
 match b.mapM (VQ P t H)with
 |some [x]=>some x
 |some xs=>some (.tup xs)
 |none=>none
def zT(P:Program)(C:aA)(f:FuncId)(args:List AV):AM AV:=λH=>
 match P.funcs[f]? with
 |some fn=>match fn.body with
  |some c=>match fF P C c (args++List.replicate (fn.ntmps-args.length) aY) H with
   |some (.exit _,_,_)=>none
   |some (_,t,H')=>(jC P fn.results.toList t H').map λv=>(v,H')
   |none=>none
  |none=>none
 |none=>none
structure Pol where
 pure:FuncId->Bool
 ad5:FuncId->Option (List AV->AM AV)
def Ci(P:Program)(L:Pol)(C:aA):aA:=λf b H=>
 match L.ad5 f with
 |some p=>p b H
 |none=>
  if L.pure f then
   match zT P C f b H.guard with
   |some (v,H1)=>(bV H1 H.next 9 v).map λd=>(d,H)
   |none=>none
  else zT P C f b H
def lN {α:Type}{g:Nat->Option α}{r:α}(h:ajV g=some r):∃n,g n=some r:=by
 unfold ajV at h;split at h
 ·exact⟨_,h⟩
 ·cases h
def aey {α:Type}{g:Nat->Option α}(b:∀n r,g n=some r->g (n+1)=some r){n:Nat}{r:α}(h:g n=some r):∀k,g (n+k)=some r:=by
 intro k
 induction k with
 |zero=>exact h
 |succ k d=>exact b _ _ d
def Nq {α:Type}{g:Nat->Option α}(b:∀n r,g n=some r->g (n+1)=some r){n m:Nat}{r:α}(h:g n=some r)(hm:n<=m):g m=some r:=by
 have:=aey b h (m-n)
 rwa [show n+(m-n)=m by omega]at this
def wQ {α:Type}{g:Nat->Option α}(i:∀n r,g n=some r->g (n+1)=some r){n:Nat}{r:α}(h:g n=some r):ajV g=some r:=by
 unfold ajV;have b:∃n,(g n).isSome=true:=⟨n,by rw[h];rfl⟩
 rw[dif_pos b];have hc:=Classical.choose_spec b;cases d:g (Classical.choose b)with
 |none=>rw[d]at hc;cases hc
 |some r'=>
  rcases Nat.le_total n (Classical.choose b)with e|e
  ·rw[Nq i h e]at d;exact d.symm
  ·rw[Nq i d e]at h;exact h
def J8 {f:Run}:∀n t H r,Ce f n t H=some r->Ce f (n+1) t H=some r:=by
 intro n
 induction n with
 |zero=>intro t H r h;cases h
 |succ n b=>
  intro t H r h;show sH (f t H) (Ce f (n+1))=some r
  change sH (f t H) (Ce f n)=some r at h
  unfold sH at h ⊢;split at h
  ·exact b _ _ _ h
  ·exact h
  ·exact h
  ·cases h
section
variable {P:Program}{C:aA}{ρ:Ren}{H H':ah}{w:World}{t t':gG}{a:Act}
def Ad {ops rest:List Oper}{o:Oper}:PW P C ops (o::rest) t H=match mV P C ops false o t H with
  |some (v,H')=>PW P C ops rest (wF t o.dst v) H'
  |none=>none:=by
 simp only[PW,mV];cases uM ops t o with
 |none=>rfl
 |some b=>
  cases b
  ·rfl
  ·cases opA P C t o H <;> rfl
def amv(hC:qQ P C){ops:List Oper}{Q:Exit->Act->World->Prop}:∀(m k:Nat) (t:gG) (H:ah) (a:Act) (w:World) (ρ:Ren),m+k=ops.length->PW P C ops (ops.drop k) t H=some (t',H')->Rel ρ H w->TOn ρ H.gen w (λ_=>True) t a->
  (∀a' ρ' w',Rel ρ' H' w'->TOn ρ' H'.gen w' (λ_=>True) t' a'->Ext ρ H w ρ' H' w'->a'.defers=a.defers->Q .normal a' w')->wpOps P ops.toArray Q (List.range' k m) a w:=by
 intro m
 induction m with
 |zero=>
  intro k t H a w ρ hk h R T hQ;rw[List.drop_eq_nil_of_le V]at h;simp only[PW,zaa,zad]at h;obtain⟨rfl,rfl⟩:=h;exact hQ a ρ w R T (Ext.refl _ _ _) rfl
 |succ m ih=>
  intro k t H a w ρ hk h R T hQ;have hlt:k<ops.length:=V
  have ho:ops[k]?=some (ops[k]'hlt):=zab hlt;rw[zaT hlt,Ad]at h;cases hs:mV P C ops false (ops[k]'hlt) t H with
  |none=>rw[hs]at h;cases h
  |some r=>
   obtain⟨v,H1⟩:=r;rw[hs]at h;simp only at h;rw[zc7,wpOps_cons];refine Np hC hs R (T.sub λ_ _=>trivial) ho λcv ρ' w' r1 r2 r3=>?_;refine ih (k+1) _ _ _ w' ρ' V h r1 ((T.keep r3).put _ r2) λa' ρ2 w2 q1 q2 q3 q4=>hQ a' ρ2 w2 q1 q2 (r3.trans q3) (q4.trans ?_);cases(ops[k]'hlt).dst <;> rfl
abbrev asl(ρ:Ren)(H:ah)(w:World)(a:Act)(t':gG)(H':ah)(Q:Act->World->Prop):Prop:=
 ∀a' ρ' w',Rel ρ' H' w'->TOn ρ' H'.gen w' (λ_=>True) t' a'->Ext ρ H w ρ' H' w'->a'.defers=a.defers->Q a' w'
def wR(P:Program)(c:Code)(f:Run):Prop:=
 ∀t H e t' H',f t H=some (e,t',H')->∀(ρ:Ren) (w:World) (a:Act),Rel ρ H w->TOn ρ H.gen w (λ_=>True) t a->∀Q:Exit->Act->World->Prop,asl ρ H w a t' H' (Q e.to)->c.wp P Q a w
def Yo {c d:Code}{f g:Run}(k:wR P c f)(n:∀t H e t' H',g t H=some (e,t',H')->∀(ρ:Ren) (w:World) (a:Act),Rel ρ H w->TOn ρ H.gen w (λ_=>True) t a->∀Q:Exit->Act->World->Prop,asl ρ H w a t' H' (Q e.to)->d.wp P Q a w):
  wR P (.seq c d) λt H=>sH (f t H) g:=by
 intro t H e t' H' h ρ w a R T Q m;refine wp_seq ?_
 change sH (f t H) g=_ at h
 unfold sH at h;split at h
 ·rename_i j H1 b;refine k t H _ j H1 b ρ w a R T _ λa' ρ' w' o p q u=>?_;exact n j H1 e t' H' h ρ' w' a' o p Q λv y z A C D E=>m v y z A C (q.trans D) (E.trans u)
 ·rename_i i j H1 b;simp only[zaa,zad]at h;obtain⟨rfl,rfl,rfl⟩:=h;exact k t H _ j H1 b ρ w a R T _ m
 ·rename_i j H1 b;simp only[zaa,zad]at h;obtain⟨rfl,rfl,rfl⟩:=h;exact k t H _ j H1 b ρ w a R T _ m
 ·cases h
open Classical in
def Yp {c:Code}{f:Run}(K:wR P c f):wR P (.loop c) (Yn f):=by
 intro t H e t' H' h ρ w a R T Q hQ;obtain⟨n,hn⟩:=lN h;let I:Nat->Act->World->Prop:=λn b w1=>∃j H1 ρ1,Ce f n j H1=some (e,t',H')/\Rel ρ1 H1 w1/\TOn ρ1 H1.gen w1 (λ_=>True) j b/\Ext ρ H w ρ1 H1 w1/\b.defers=a.defers
 let μ:Act->World->Nat:=λb w1=>if k:∃n,I n b w1/\∀i,i<n->¬I i b w1 then Classical.choose k else 0
 have hμ:∀n b w1,I n b w1->I (μ b w1) b w1/\μ b w1<=n:=by
  intro n b w1 hi;have k:∃n,I n b w1/\∀i,i<n->¬I i b w1:=ajS (p:=λn=>I n b w1) n hi;have u:=Classical.choose_spec k;have v:μ b w1=Classical.choose k:=dif_pos k;rw[v];refine⟨u.1,?_⟩;rcases zaU n (Classical.choose k)with L|L
  ·exact absurd hi (u.2 n L)
  ·exact L
 refine wp_loop (λb w1=>∃n,I n b w1) μ ⟨n,t,H,ρ,hn,R,T,Ext.refl _ _ _,rfl⟩ λb w1 ⟨n1,hi⟩=>?_;obtain⟨⟨j,H1,ρ1,d,M,W,X,D1⟩,_⟩:=hμ n1 b w1 hi;cases hm:μ b w1 with
 |zero=>rw[hm]at d;cases d
 |succ m=>
  rw[hm]at d
  change sH (f j H1) (Ce f m)=_ at d
  unfold sH at d;split at d
  ·rename_i F G g;refine K j H1 _ F G g ρ1 w1 b M W _ λo y q z A C D=>?_;have E:I m o q:=⟨F,G,y,d,z,A,X.trans C,D.trans D1⟩
   exact⟨⟨m,E⟩,by have:=(hμ m o q E).2;omega⟩
  ·rename_i i F G g;simp only[zaa,zad]at d;obtain⟨rfl,rfl,rfl⟩:=d;exact K j H1 _ _ _ g ρ1 w1 b M W _ λo y q z A C D=>hQ o y q z A (X.trans C) (D.trans D1)
  ·rename_i F G g;simp only[zaa,zad]at d;obtain⟨rfl,rfl,rfl⟩:=d;exact K j H1 _ _ _ g ρ1 w1 b M W _ λo y q z A C D=>hQ o y q z A (X.trans C) (D.trans D1)
  ·cases d
def Cj(u:qQ P C)(L:kQ C)(hm:P.follows .mixedOrders=true):∀c:Code,wR P c (fF P C c):=by
 intro c
 induction c with
 |skip=>
  intro t H e t' H' h ρ w a R T Q b;simp only[fF,zaa,zad]at h;obtain⟨rfl,rfl,rfl⟩:=h;exact wp_skip (b a ρ w R T (Ext.refl _ _ _) rfl)
 |region id ops draw=>
  intro t H e t' H' h ρ w a R T Q b;simp only[fF]at h;cases draw with
  |true=>
   simp only[if_true]at h;split at h <;> first|(cases h;done)|skip
   rename_i k H1 hd;simp only[zaa,zad]at h;obtain⟨rfl,rfl,rfl⟩:=h;have:=ajU u L hm (id:=id) hd R T (Q:=Q) b
   simpa using this
  |false=>
   simp only[zal,if_false]at h;split at h <;> first|(cases h;done)|skip
   rename_i k H1 hd;simp only[zaa,zad]at h;obtain⟨rfl,rfl,rfl⟩:=h;refine wp_region ?_;have:=amv u (ops:=ops.toList) (Q:=Q) ops.toList.length 0 t H a w ρ O (by simpa using hd) R T b;rw[zcF]
   simpa using this
 |seq x y m n=>exact Yo m n
 |cond c x y m n=>
  intro t H e t' H' h ρ w a R T Q b;simp only[fF]at h;have j:RV ρ H.gen w (dS t c) (a.eval c):=by
   cases c with
   |tmp d=>exact T.any d trivial
   |const v=>simp[dS,Act.eval,RV]
   |global g=>simp[dS,Act.eval,RV]
   |func f=>simp[dS,Act.eval,RV,RVs]
  split at h
  ·rename_i hb;rw[hb]at j;simp only[RV]at j;exact wp_cond_true j (m t H e t' H' h ρ w a R T Q b)
  ·rename_i hb;rw[hb]at j;simp only[RV]at j;exact wp_cond_false j (n t H e t' H' h ρ w a R T Q b)
  ·cases h
 |block id x p=>
  intro t H e t' H' h ρ w a R T Q b;simp only[fF]at h;refine wp_block ?_;unfold DR at h;split at h
  ·rename_i i k H1 q;refine p t H _ k H1 q ρ w a R T _ λz A D E F G K=>?_;simp only[Ex.to,Exit.inBlock];split at h
   ·rename_i o;simp only[zaa,zad]at h;obtain⟨rfl,rfl,rfl⟩:=h;rw[if_pos o];exact b z A D E F G K
   ·rename_i o;simp only[zaa,zad]at h;obtain⟨rfl,rfl,rfl⟩:=h;rw[if_neg o];exact b z A D E F G K
  ·rename_i k H1 q;simp only[zaa,zad]at h;obtain⟨rfl,rfl,rfl⟩:=h;exact p t H _ k H1 q ρ w a R T _ b
  ·rename_i k H1 q;simp only[zaa,zad]at h;obtain⟨rfl,rfl,rfl⟩:=h;exact p t H _ k H1 q ρ w a R T _ b
  ·cases h
 |loop x p=>exact Yp p
 |exit id=>
  intro t H e t' H' h ρ w a R T Q b;simp only[fF,zaa,zad]at h;obtain⟨rfl,rfl,rfl⟩:=h;exact wp_exit (b a ρ w R T (Ext.refl _ _ _) rfl)
 |ret=>
  intro t H e t' H' h ρ w a R T Q b;simp only[fF,zaa,zad]at h;obtain⟨rfl,rfl,rfl⟩:=h;exact wp_ret (b a ρ w R T (Ext.refl _ _ _) rfl)
 |_=>intro t H e t' H' h;simp[fF]at h
end
section
variable {P:Program}{C:aA}{ρ:Ren}{H H':ah}{w:World}{t t':gG}{a:Act}
def J9(d:kQ C){ops:List Oper}{lo:Bool}{o:Oper}{v:AV}(h:mV P C ops lo o t H=some (v,H')):Keeps H H':=by
 unfold mV at h;split at h <;> first|(cases h;done)|skip
 ·split at h
  ·have:=(GR d h).1;exact⟨this.1,this.2.1,λr _ b=>this.2.2 r b,λr b=>by rw[this.2.2 r b];exact .refl _⟩
  ·exact EM d h
 ·simp only[zaa,zad]at h;rw[h.2];exact .refl _
def Ko(b:kQ C){ops:List Oper}:∀(l:List Oper) (t:gG) (H:ah),PW P C ops l t H=some (t',H')->Keeps H H'
 |[],t,H,h=>by
  simp only[PW,zaa,zad]at h;rw[h.2];exact .refl _
 |o::l,t,H,h=>by
  rw[Ad]at h;split at h <;> first|(cases h;done)|skip
  rename_i v H1 d;exact(J9 b d).trans (Ko b l _ _ h)
def yV(b:kQ C){ops:List Oper}:∀(l:List Nat) (t:gG) (H:ah),iW P C ops l t H=some (t',H')->Keeps H H'
 |[],t,H,h=>by
  simp only[iW,zaa,zad]at h;rw[h.2];exact .refl _
 |i::l,t,H,h=>by
  simp only[iW]at h;split at h <;> first|(cases h;done)|skip
  split at h <;> first|(cases h;done)|skip
  rename_i v H1 d;exact(EM b d).trans (yV b l _ _ h)
def uZ(b:kQ C){ops:List Oper}:∀(l:List Nat) (t:gG) (H:ah),fZ P C ops l t H=some (t',H')->Keeps H H'
 |[],t,H,h=>by
  simp only[fZ,zaa,zad]at h;rw[h.2];exact .refl _
 |i::l,t,H,h=>by
  simp only[fZ]at h;split at h <;> first|(cases h;done)|skip
  split at h <;> first|(cases h;done)|skip
  rename_i v H1 d;exact(J9 b d).trans (uZ b l _ _ h)
def TP(b:kQ C){ops:List Oper}(h:y7 P C ops t H=some (t',H')):Keeps H H':=by
 unfold y7 at h;split at h <;> first|(cases h;done)|skip
 split at h <;> first|(cases h;done)|skip
 rename_i t0 H0 e;have d:=yV b _ _ _ e;split at h
 ·exact d.trans (uZ b _ _ _ h)
 ·split at h <;> first|(cases h;done)|skip
  exact d.trans (uZ b _ _ _ h)
def vg(f:Run):Prop:=∀t H e t' H',f t H=some (e,t',H')->Keeps H H'
def Kq {f g:Run}(d:vg f)(k:vg g):vg λt H=>sH (f t H) g:=by
 intro t H e t' H' h
 change sH (f t H) g=_ at h
 unfold sH at h;split at h
 ·rename_i j H1 b;exact(d _ _ _ _ _ b).trans (k _ _ _ _ _ h)
 ·rename_i i j H1 b;simp only[zaa,zad]at h;obtain⟨_,_,rfl⟩:=h;exact d _ _ _ _ _ b
 ·rename_i j H1 b;simp only[zaa,zad]at h;obtain⟨_,_,rfl⟩:=h;exact d _ _ _ _ _ b
 ·cases h
def Yq {f:Run}(b:vg f):vg (Yn f):=by
 have key:∀n,vg (Ce f n):=by
  intro n
  induction n with
  |zero=>intro t H e t' H' h;cases h
  |succ n d=>exact Kq b d
 intro t H e t' H' h;obtain⟨n,g⟩:=lN h;exact key n t H e t' H' g
def Yr(m:kQ C):∀c:Code,vg (fF P C c):=by
 intro c
 induction c with
 |skip=>
  intro t H e t' H' h;simp only[fF,zaa,zad]at h;rw[<-h.2.2];exact .refl _
 |region id ops draw=>
  intro t H e t' H' h;simp only[fF]at h;split at h <;> first|(cases h;done)|skip
  rename_i k H1 hd;simp only[zaa,zad]at h;obtain⟨_,rfl,rfl⟩:=h;split at hd
  ·exact TP m hd
  ·exact Ko m _ _ _ hd
 |seq x y b d=>exact Kq b d
 |cond c x y b d=>
  intro t H e t' H' h;simp only[fF]at h;split at h
  ·exact b _ _ _ _ _ h
  ·exact d _ _ _ _ _ h
  ·cases h
 |block id x g=>
  intro t H e t' H' h;simp only[fF]at h;unfold DR at h;split at h
  ·rename_i i k H1 j;split at h <;>
   ·simp only[zaa,zad]at h;obtain⟨_,_,rfl⟩:=h;exact g _ _ _ _ _ j
  ·rename_i k H1 j;simp only[zaa,zad]at h;obtain⟨_,_,rfl⟩:=h;exact g _ _ _ _ _ j
  ·rename_i k H1 j;simp only[zaa,zad]at h;obtain⟨_,_,rfl⟩:=h;exact g _ _ _ _ _ j
  ·cases h
 |loop x g=>exact Yq g
 |exit id=>
  intro t H e t' H' h;simp only[fF,zaa,zad]at h;rw[<-h.2.2];exact .refl _
 |ret=>
  intro t H e t' H' h;simp only[fF,zaa,zad]at h;rw[<-h.2.2];exact .refl _
 |_=>intro t H e t' H' h;simp[fF]at h
def Kr(d:kQ C){f:FuncId}{args:List AV}{v:AV}(h:zT P C f args H=some (v,H')):Keeps H H':=by
 unfold zT at h;split at h <;> first|(cases h;done)|skip
 split at h <;> first|(cases h;done)|skip
 split at h <;> first|(cases h;done)|skip
 rename_i e g H1 i j;have:=Yr d _ _ _ _ _ _ j;cases b:jC P _ g H1 with
 |none=>rw[b]at h;cases h
 |some x=>
  rw[b]at h;simp only[zaj,zaa,zad]at h;rw[<-h.2];exact this
def arO(tmps:Array Value):ResultVar->Sem Value
 |.tmp t=>pure (tmps.getD t undef)
 |.cell a t=>do loadVar t (<-asAddr (tmps.getD a undef))
def Qj(fn:Func)(tmps:Array Value):results fn tmps=(do
  let vs<-fn.results.mapM (arO tmps)
  pure (if h:vs.size=1 then vs[0]else .tuple vs)):=by
 rfl
def ajW(R:Rel ρ H w)(T:TOn ρ H.gen w (λ_=>True) t a){x:ResultVar}{v:AV}(h:VQ P t H x=some v):
  ∃cv,(arO a.tmps x).run P w=.ok cv w/\RV ρ H.gen w v cv:=by
 cases x with
 |tmp d=>
  simp only[VQ,zaa]at h;subst h;exact⟨_,rfl,T.any d trivial⟩
 |cell b p=>
  simp only[VQ]at h;cases i:Tj P p (t.getD b aY) H with
  |none=>rw[i]at h;cases h
  |some r=>
   obtain⟨u,H1⟩:=r;rw[i]at h;simp only[zaj,zaa]at h;subst h;have g:=T.any b trivial;obtain⟨_,cv,n,q⟩:=ZN R g i;have j:∃k,a.tmps.getD b undef=.pointer (some k):=by
    have m:=(uS i).1;unfold ajI at m;split at m
    ·rename_i hb;rw[hb]at g m;simp only[RV]at g;obtain⟨k,e,_⟩:=g;exact⟨k,e⟩
    ·rename_i hb;rw[hb]at g;simp only[RV]at g;obtain⟨b,o,e,_⟩:=g;exact⟨_,e⟩
    ·cases m
   obtain⟨k,j⟩:=j;refine⟨cv,?_,q⟩;rw[j]at n;simp only[arO,j]
   simpa [Instr.loadAt,Instr.sureAddr,asAddr]using n
def VR(R:Rel ρ H w)(T:TOn ρ H.gen w (λ_=>True) t a):∀(b:List ResultVar) (xs:List AV),b.mapM (VQ P t H)=some xs->
  ∃cs:List Value,(b.mapM (arO a.tmps)).run P w=.ok cs w/\RVs ρ H.gen w xs cs
 |[],xs,h=>by
  simp at h;subst h;exact⟨[],O,by simp[RVs]⟩
 |r::b,xs,h=>by
  rw[zbC]at h;cases d:VQ P t H r with
  |none=>rw[d]at h;cases h
  |some y=>
   rw[d]at h;cases e:b.mapM (VQ P t H)with
   |none=>rw[e]at h;cases h
   |some g=>
    rw[e]at h;simp only[zbY,za4,zcv,zaa]at h;subst h;obtain⟨cv,i,j⟩:=ajW (P:=P) R T d;obtain⟨cs,k,m⟩:=VR R T b g e;refine⟨cv::cs,?_,?_⟩
    ·rw[zbC,Sem.run_bind,i];simp only[Result.andThen_ok,Sem.run_bind,k,Sem.run_pure]
    ·simp only[RVs];exact⟨cv,cs,rfl,j,m⟩
def Kt(R:Rel ρ H w)(T:TOn ρ H.gen w (λ_=>True) t a){fn:Func}{v:AV}(h:jC P fn.results.toList t H=some v):
  ∃cv,(results fn a.tmps).run P w=.ok cv w/\RV ρ H.gen w v cv:=by
 unfold jC at h;cases hm:fn.results.toList.mapM (VQ P t H)with
 |none=>rw[hm]at h;cases h
 |some xs=>
  rw[hm]at h;obtain⟨cs,e,b⟩:=VR (P:=P) R T _ _ hm;have d:(results fn a.tmps).run P w=.ok (if h:cs.toArray.size=1 then cs.toArray[0]else .tuple cs.toArray) w:=by
   rw[Qj,Array.mapM_eq_mapM_toList,map_eq_pure_bind];simp only[Sem.run_bind];rw[e];rfl
  rw[d];refine⟨_,rfl,?_⟩;cases xs with
  |nil=>
   simp only[zaa]at h;subst h;simp only[RVs]at b;subst b;simp[RV,RVs]
  |cons x xs=>
   cases xs with
   |nil=>
    simp only[zaa]at h;subst h;simp only[RVs]at b;obtain⟨y,j,rfl,g,rfl⟩:=b
    simpa using g
   |cons k xs=>
    simp only[zaa]at h;subst h;have i:cs.length≠1:=by have:=dN b;simp at this;omega
    have:(if h:cs.toArray.size=1 then cs.toArray[0]else .tuple cs.toArray)=.tuple cs.toArray:=by
     rw[dif_neg];simpa using i
    rw[this];simp only[RV];exact⟨_,rfl,by simpa using b⟩
def aac {args:List AV}{lG:Array Value}{m:Nat}(h:RVs ρ H.gen w args lG.toList):
  TOn ρ H.gen w (λ_=>True) (args++List.replicate (m-args.length) aY) { tmps:=lG++Array.replicate (m-lG.size) undef,defers:=[] }:=by
 have hl:=dN h;have hl':lG.size=args.length:=by simpa using hl
 refine⟨by simp[hl'],λ(d:Nat) _ hd=>?_⟩;by_cases hlt:d<args.length
 ·have hx:args[d]?=some (args[d]'hlt):=zab hlt;obtain⟨v,hv,h1⟩:=jL h hx;have e1:(args++List.replicate (m-args.length) aY).getD d aY=args[d]'hlt:=by
   simp[List.getD,zaG hlt,hx]
  have e2:(lG++Array.replicate (m-lG.size) undef).getD d undef=v:=by
   have hv':lG[d]?=some v:=by simpa using hv
   have hlt2:d<lG.size:=V
   rw[zcs,Array.getElem?_append_left hlt2,hv'];rfl
  rw[e1,e2];exact h1
 ·have e1:(args++List.replicate (m-args.length) aY).getD d aY=aY:=by
   simp only[List.getD,za2 (zdO.1 hlt),zbB];split <;> rfl
  have e2:(lG++Array.replicate (m-lG.size) undef).getD d undef=undef:=by
   rw[zcs,Array.getElem?_append_right V,Array.getElem?_replicate];split <;> rfl
  show RV ρ H.gen w (List.getD _ d aY) (Array.getD _ d undef);rw[e1,e2];exact EL
def Ku(o:qQ P C)(p:kQ C)(hm:P.follows .mixedOrders=true):qQ P (zT P C):=by
 intro f k H v H' h ρ w F R b;unfold zT at h;split at h <;> first|(cases h;done)|skip
 rename_i fn q;split at h <;> first|(cases h;done)|skip
 rename_i c hb;split at h <;> first|(cases h;done)|skip
 rename_i e m H1 g u;cases j:jC P fn.results.toList m H1 with
 |none=>rw[j]at h;cases h
 |some x=>
  rw[j]at h;simp only[zaj,zaa,zad]at h;obtain⟨rfl,rfl⟩:=h;refine calls_of_wp q hb ?_;refine Cj o p hm c _ _ e m H1 u ρ w _ R (aac b) _ λa' ρ' w' n y z A=>?_;obtain⟨cv,D,E⟩:=Kt (P:=P) n y j;have d:bodyPost P fn (λe w'=>∃cv ρ',e=.returned cv/\Rel ρ' H1 w'/\RV ρ' H1.gen w' x cv/\Ext ρ H w ρ' H1 w') .ret a' w':=⟨A,cv,D,cv,ρ',rfl,n,E,z⟩
  cases e with
  |normal=>exact d
  |ret=>exact d
  |exit i=>exact absurd rfl (g i)
def Yt(P:Program)(L:Pol):Prop:=∀f p,L.ad5 f=some p->qQ P (λg b H=>if g=f then p b H else none)/\∀b H v H',p b H=some (v,H')->Keeps H H'
def TQ {L:Pol}(o:Yt P L)(m:qQ P C)(i:kQ C)(hm:P.follows .mixedOrders=true):qQ P (Ci P L C):=by
 intro f d H v H' h ρ w j R b;unfold Ci at h;split at h
 ·rename_i p q;exact(o f p q).1 f d H v H' (by simpa using h) ρ w j R b
 ·split at h
  ·split at h <;> first|(cases h;done)|skip
   rename_i u H1 n;cases k:bV H1 H.next 9 u with
   |none=>rw[k]at h;cases h
   |some K=>
    rw[k]at h;simp only[zaj,zaa,zad]at h;obtain⟨rfl,rfl⟩:=h;refine(Ku m i hm f d H.guard u H1 n ρ w j ⟨R.out,R.obj,R.inj,R.gl⟩ b).mono λe w' y=>?_;obtain⟨cv,ρ',rfl,z,A,g⟩:=y;have E:Ext ρ H w ρ' H1 w':=⟨g.next,g.mono,g.same,g.kept,g.range,g.size,g.frame,g.shape,g.os,g.tape,g.output⟩
    obtain⟨D,F,G⟩:=Z9 R (Kr i n) z E k A;exact⟨cv,ρ,rfl,D,F,G⟩
  ·exact Ku m i hm f d H v H' h ρ w j R b
def TS {L:Pol}(e:Yt P L)(g:kQ C):kQ (Ci P L C):=by
 intro f b H v H' h;unfold Ci at h;split at h
 ·rename_i p i;exact(e f p i).2 b H v H' h
 ·split at h
  ·split at h <;> first|(cases h;done)|skip
   rename_i u H1 j;cases d:bV H1 H.next 9 u with
   |none=>rw[d]at h;cases h
   |some k=>
    rw[d]at h;simp only[zaj,zaa,zad]at h;rw[<-h.2];exact .refl _
  ·exact Kr g h
end
abbrev Pt:=FuncId × List AV × ah × AV × ah
def Has(C:aA)(L:List Pt):Prop:=∀p∈L,C p.1 p.2.1 p.2.2.1=some (p.2.2.2.1,p.2.2.2.2)
def Has.left {C:aA}{L M:List Pt}(h:Has C (L++M)):Has C L:=λp b=>h p (zc5 _ b)
def Has.right {C:aA}{L M:List Pt}(h:Has C (L++M)):Has C M:=λp b=>h p (zdv _ b)
def Has.append {C:aA}{L M:List Pt}(h:Has C L)(b:Has C M):Has C (L++M):=λp d=>(zaQ.1 d).elim (h p) (b p)
def Fin1 {α:Type}(C:aA)(F:aA->Option α):Prop:=∀r,F C=some r->∃L,Has C L/\∀b,Has b L->F b=some r
def Fin1.const {α:Type}{C:aA}(x:Option α):Fin1 C λ_=>x:=λr h=>⟨[],λ_ h=>by simp at h,λ_ _=>h⟩
def Fin1.point {C:aA}{f:FuncId}{args:List AV}{H:ah}:Fin1 C λC=>C f args H:=λr h=>
 ⟨[(f,args,H,r.1,r.2)],λp b=>by simp at b;subst b;exact h,λd hc=>hc (f,args,H,r.1,r.2) O⟩
def Fin1.bind {α β:Type}{C:aA}{F:aA->Option α}{G:α->aA->Option β}(e:Fin1 C F)(g:∀a,Fin1 C (G a)):Fin1 C λC=>(F C).bind λa=>G a C:=by
 intro r h;cases b:F C with
 |none=>simp[b]at h
 |some a=>
  simp only[b,za4]at h;obtain⟨L,i,j⟩:=e a b;obtain⟨M,k,m⟩:=g a r h;exact⟨L++M,i.append k,λd hc=>by simp only[j d hc.left,za4];exact m d hc.right⟩
def Fin1.of_eq {α:Type}{C:aA}{F G:aA->Option α}(h:Fin1 C G)(e:∀C,F C=G C):Fin1 C F:=by
 rw[show F=G from funext e];exact h
section
variable {P:Program}{C:aA}{t:gG}{H:ah}{o:Oper}
def aad {x:AV}{args:List AV}:Fin1 C λC=>qo P C x args H:=by
 unfold qo;split
 ·split
  ·exact Fin1.point
  ·exact Fin1.const _
 ·split
  ·exact Fin1.point
  ·exact Fin1.const _
 ·exact Fin1.const _
def TT:Fin1 C λC=>opA P C t o H:=by
 obtain⟨dst,op,b,d,after,guard⟩:=o;cases op
 case makeMap ty r=>cases r <;> exact Fin1.const _
 case call c=>
  simp only[opA,wH];split
  ·exact aad
  ·exact Fin1.const _
  ·exact Fin1.const _
 all_goals exact Fin1.const _
def VT {ops:List Oper}{lo:Bool}:Fin1 C λC=>mV P C ops lo o t H:=by
 cases hw:uM ops t o with
 |none=>exact(Fin1.const none).of_eq λC=>by simp[mV,hw]
 |some b=>
  cases b with
  |false=>exact(Fin1.const (some (aY,H))).of_eq λC=>by simp[mV,hw]
  |true=>
   cases lo with
   |false=>exact(TT (P:=P) (o:=o) (t:=t) (H:=H)).of_eq λC=>by simp[mV,hw]
   |true=>
    refine Fin1.of_eq (G:=λC=>(opA P C t o H.guard).bind λr=>some (r.1,{ r.2 with base:=H.base })) (Fin1.bind TT λ_=>Fin1.const _) λC=>?_;simp only[mV,hw,if_true,opG];cases opA P C t o H.guard <;> rfl
def VU {ops:List Oper}:∀(l:List Oper) (t:gG) (H:ah),Fin1 C λC=>PW P C ops l t H
 |[],t,H=>Fin1.const _
 |o::l,t,H=>by
  refine Fin1.of_eq (G:=λC=>(mV P C ops false o t H).bind λr=>PW P C ops l (wF t o.dst r.1) r.2) (Fin1.bind VT λr=>VU l _ _) λC=>?_;rw[Ad];cases mV P C ops false o t H <;> rfl
def DT {ops:List Oper}:∀(l:List Nat) (t:gG) (H:ah),Fin1 C λC=>iW P C ops l t H
 |[],t,H=>Fin1.const _
 |i::l,t,H=>by
  cases b:ops[i]? with
  |none=>exact(Fin1.const none).of_eq λC=>by simp[iW,b]
  |some o=>
   refine Fin1.of_eq (G:=λC=>(opA P C t o H).bind λr=>iW P C ops l (wF t o.dst r.1) r.2) (Fin1.bind TT λr=>DT l _ _) λC=>?_;simp only[iW,b];cases opA P C t o H <;> rfl
def G9 {ops:List Oper}:∀(l:List Nat) (t:gG) (H:ah) (r:gG × ah),fZ P C ops l t H=some r->
  ∃L,Has C L/\∀b,Has b L->∀k,fZ P b ops (l.take k) t H=fZ P C ops (l.take k) t H
 |[],t,H,r,h=>⟨[],λ_ h=>by simp at h,λ_ _ k=>by simp[fZ]⟩
 |i::l,t,H,r,h=>by
  simp only[fZ]at h;cases g:ops[i]? with
  |none=>rw[g]at h;cases h
  |some o=>
   rw[g]at h;simp only at h;cases d:mV P C ops (loose ops i && mM o.op) o t H with
   |none=>rw[d]at h;cases h
   |some q=>
    rw[d]at h;simp only at h;obtain⟨L,j,m⟩:=VT (P:=P) (C:=C) (t:=t) (H:=H) (o:=o) (ops:=ops) (lo:=loose ops i && mM o.op) q d;obtain⟨M,n,p⟩:=G9 l _ _ r h;refine⟨L++M,j.append n,λb hc k=>?_⟩;cases k with
    |zero=>rfl
    |succ k=>
     have e:=m b hc.left;simp only[List.take_succ_cons,fZ,g,d];simp only at e;rw[e];exact p b hc.right k
def aae {ops:List Oper}{p:Nat}(b:p<=ops.length):∃k,(List.range p).filter (λi=>!cst ops i)=(mX ops).take k:=by
 have:List.range ops.length=List.range p++(List.range (ops.length-p)).map (p+ ·):=by
  rw[<-List.range_add];congr 1;omega
 refine⟨((List.range p).filter (λi=>!cst ops i)).length,?_⟩;unfold mX;rw[this,zcr,List.take_left]
def TU {ops:List Oper}{p:Nat × Nat}(h:p∈lW ops):p.1<ops.length/\p.2<ops.length:=by
 unfold lW at h;obtain⟨j,b,h⟩:=za5.1 h;obtain⟨e,d,rfl⟩:=zaM.1 h;exact⟨za0.1 b,za0.1 (zbv.1 d).1⟩
def aaf {ops:List Oper}:Fin1 C λC=>y7 P C ops t H:=by
 intro r h;simp only at h;unfold y7 at h;split at h <;> first|(cases h;done)|skip
 rename_i w;split at h <;> first|(cases h;done)|skip
 rename_i t0 H0 F;obtain⟨L,G,K⟩:=DT (P:=P) (C:=C) (ops:=ops) (oL ops) t H (t0,H0) F;have g:fZ P C ops (mX ops) t0 H0=some r:=by
  split at h
  ·exact h
  ·split at h <;> first|(cases h;done)|skip
   exact h
 obtain⟨M,Q,A⟩:=G9 (P:=P) (C:=C) (ops:=ops) (mX ops) t0 H0 r g;have d:∀b,Has b M->fZ P b ops (mX ops) t0 H0=some r:=λb hc=>by
  have:=A b hc (mX ops).length;rw[List.take_length]at this;rw[this];exact g
 have n:∀b,Has b M->∀p,p<=ops.length->Gu P b ops p t0 H0=Gu P C ops p t0 H0:=λb hc p o=>by
  obtain⟨k,hk⟩:=aae o;unfold Gu;rw[hk];exact A b hc k
 refine⟨L++M,G.append Q,λb hc=>?_⟩;have D:=K b hc.left;simp only at D ⊢;unfold y7;rw[if_pos w,D];simp only;split at h
 ·exact d b hc.right
 ·rename_i ps R he;split at h <;> first|(cases h;done)|skip
  rename_i ha;cases T:lW ops with
  |nil=>exact d b hc.right
  |cons q qs=>
   rw[if_pos]
   ·exact d b hc.right
   ·intro p o;rw[<-T]at o;obtain⟨b1,b2⟩:=TU o;have e:=ha p o;unfold agree at e ⊢;split
    ·rename_i i;rw[if_pos i]at e;intro y z j m u v;rw[n b hc.right _ V]at u v;exact e y z j m u v
    ·rename_i i;rw[if_neg i]at e;intro W X y z j m E u v;rw[n b hc.right _ V]at E u v;exact e W X y z j m E u v
abbrev asn:=aA->Run
def ajX(C:aA)(F:asn):Prop:=∀t H,Fin1 C λC=>F C t H
def VW {F G:asn}(b:ajX C F)(d:ajX C G):ajX C λC t H=>sH (F C t H) (G C):=by
 intro t H;refine Fin1.of_eq (G:=λC=>(F C t H).bind λr=>(match r with|(.normal,t,H)=>G C t H|r=>some r)) (Fin1.bind (b t H) λr=>?_) λC=>?_
 ·obtain⟨e,t,H⟩:=r;cases e with
  |normal=>exact d t H
  |_=>exact Fin1.const _
 ·show sH (F C t H) (G C)=_;unfold sH;cases F C t H with
  |none=>rfl
  |some r=>obtain⟨e,t,H⟩:=r;cases e <;> rfl
def aez {F:asn}(b:ajX C F):ajX C λC=>Yn (F C):=by
 have key:∀n,ajX C λC=>Ce (F C) n:=by
  intro n
  induction n with
  |zero=>exact λt H=>Fin1.const none
  |succ n d=>exact VW b d
 intro t H r h;obtain⟨n,e⟩:=lN h;obtain⟨L,g,i⟩:=key n t H r e;exact⟨L,g,λj hc=>wQ (λn r=>J8 n t H r) (i j hc)⟩
def aeA:∀c:Code,ajX C λC=>fF P C c:=by
 intro c
 induction c with
 |skip=>exact λt H=>Fin1.const _
 |region id ops draw=>
  intro t H;cases draw with
  |true=>
   refine Fin1.of_eq (G:=λC=>(y7 P C ops.toList t H).bind λr=>some (.normal,r.1,r.2)) (Fin1.bind aaf λ_=>Fin1.const _) λC=>?_;simp only[fF,if_true];cases y7 P C ops.toList t H <;> rfl
  |false=>
   refine Fin1.of_eq (G:=λC=>(PW P C ops.toList ops.toList t H).bind λr=>some (.normal,r.1,r.2)) (Fin1.bind (VU _ _ _) λ_=>Fin1.const _) λC=>?_;simp only[fF,zal,if_false];cases PW P C ops.toList ops.toList t H <;> rfl
 |seq x y b d=>exact VW b d
 |cond c x y b d=>
  intro t H;simp only[fF];split
  ·exact b t H
  ·exact d t H
  ·exact Fin1.const _
 |block id x e=>
  intro t H;refine Fin1.of_eq (G:=λC=>(fF P C x t H).bind λr=>DR id (some r)) (Fin1.bind (e t H) λ_=>Fin1.const _) λC=>?_;simp only[fF];cases fF P C x t H <;> rfl
 |loop x e=>exact aez e
 |exit id=>exact λt H=>Fin1.const _
 |ret=>exact λt H=>Fin1.const _
 |_=>exact λt H=>Fin1.const _
def VX {f:FuncId}{args:List AV}:Fin1 C λC=>zT P C f args H:=by
 cases b:P.funcs[f]? with
 |none=>exact(Fin1.const none).of_eq λC=>by simp[zT,b]
 |some fn=>
  cases hb:fn.body with
  |none=>exact(Fin1.const none).of_eq λC=>by simp[zT,b,hb]
  |some c=>
   refine Fin1.of_eq (G:=λC=>(fF P C c (args++List.replicate (fn.ntmps-args.length) aY) H).bind λr=>
    (match r with
     |(.exit _,_,_)=>none
     |(_,t,H')=>(jC P fn.results.toList t H').map λv=>(v,H'))) (Fin1.bind (aeA c _ _) λ_=>Fin1.const _) λC=>?_
   simp only[zT,b,hb];cases fF P C c (args++List.replicate (fn.ntmps-args.length) aY) H with
   |none=>rfl
   |some r=>obtain⟨e,t,H⟩:=r;cases e <;> rfl
def Qk {L:Pol}{f:FuncId}{args:List AV}:Fin1 C λC=>Ci P L C f args H:=by
 cases b:L.ad5 f with
 |some p=>exact(Fin1.const (p args H)).of_eq λC=>by simp[Ci,b]
 |none=>
  cases d:L.pure f with
  |false=>exact(VX (P:=P) (f:=f) (args:=args) (H:=H)).of_eq λC=>by simp[Ci,b,d]
  |true=>
   refine Fin1.of_eq (G:=λC=>(zT P C f args H.guard).bind λr=>(bV r.2 H.next 9 r.1).map λe=>(e,H)) (Fin1.bind VX λ_=>Fin1.const _) λC=>?_;simp only[Ci,b,d,if_true];cases zT P C f args H.guard <;> rfl
end
def EC(P:Program)(L:Pol):Nat->aA
 |0=>λ_ _ _=>none
 |n+1=>Ci P L (EC P L n)
def callω(P:Program)(L:Pol):aA:=λf b H=>ajV λn=>EC P L n f b H
section
variable {P:Program}{L:Pol}
def Cm:∀(n:Nat) (f:FuncId) (args:List AV) (H:ah) (r:AV × ah),EC P L n f args H=some r->EC P L (n+1) f args H=some r:=by
 intro n
 induction n with
 |zero=>intro f args H r h;cases h
 |succ n b=>
  intro f args H r h;obtain⟨M,d,e⟩:=Qk (P:=P) (L:=L) (C:=EC P L n) (f:=f) (args:=args) (H:=H) r h;exact e _ λp g=>b _ _ _ _ (d p g)
def amw:∀M:List Pt,Has (callω P L) M->∃n,Has (EC P L n) M
 |[],_=>⟨0,λ_ h=>by simp at h⟩
 |p::M,h=>by
  obtain⟨n,d⟩:=lN (h p O);obtain⟨m,hm⟩:=amw M λq b=>h q (by simp[b]);refine⟨n+m,λq b=>?_⟩;rcases zao.1 b with rfl|b
  ·exact Nq (g:=λn=>EC P L n q.1 q.2.1 q.2.2.1) (λn r=>Cm n _ _ _ r) d V
  ·exact Nq (g:=λn=>EC P L n q.1 q.2.1 q.2.2.1) (λn r=>Cm n _ _ _ r) (hm q b) V
def callω_of {f:FuncId}{args:List AV}{H:ah}{r:AV × ah}(h:Ci P L (callω P L) f args H=some r):callω P L f args H=some r:=by
 obtain⟨M,b,d⟩:=Qk (P:=P) (L:=L) (C:=callω P L) (f:=f) (args:=args) (H:=H) r h;obtain⟨n,e⟩:=amw M b;have:EC P L (n+1) f args H=some r:=d _ e;exact wQ (g:=λn=>EC P L n f args H) (λn r=>Cm n f args H r) this
def callω_ok(g:Yt P L)(hm:P.follows .mixedOrders=true):qQ P (callω P L)/\kQ (callω P L):=by
 have key:∀n,qQ P (EC P L n)/\kQ (EC P L n):=by
  intro n
  induction n with
  |zero=>exact⟨λf b H v H' h=>(by cases h),λf b H v H' h=>(by cases h)⟩
  |succ n d=>exact⟨TQ g d.1 d.2 hm,TS g d.2⟩
 refine⟨λf b H v H' h=>?_,λf b H v H' h=>?_⟩
 ·obtain⟨n,e⟩:=lN h;exact(key n).1 f b H v H' e
 ·obtain⟨n,e⟩:=lN h;exact(key n).2 f b H v H' e
end
def aeB(c:AV)(x y:Res):Res:=
 match c with
 |.s (.bool true)=>x
 |.s (.bool false)=>y
 |_=>none
def bnd {α β:Type}(x:Option (α × ah))(k:α->ah->Option β):Option β:=
 match x with
 |some (v,H)=>k v H
 |none=>none
def VY {α β:Type}{v:α}{H:ah}{k:α->ah->Option β}:bnd (some (v,H)) k=k v H:=rfl
def gd {β:Type}(b:Bool)(x:Option (AV × ah))(H:ah)(k:AV->ah->Option β):Option β:=
 if b=true then bnd x k else k aY H
def okN(r:Option (gG × ah)):Res:=
 match r with
 |some (t,H)=>some (.normal,t,H)
 |none=>none
section
variable {P:Program}{C:aA}{t:gG}{H H':ah}
def aeC {a b:Code}:fF P C (.seq a b) t H=sH (fF P C a t H) (fF P C b):=rfl
def aag {c:Operand}{a b:Code}:fF P C (.cond c a b) t H=aeB (dS t c) (fF P C a t H) (fF P C b t H):=by
 simp only[fF,aeB]
 try rfl
def Yu {id:Nat}{a:Code}:fF P C (.block id a) t H=DR id (fF P C a t H):=rfl
def TV {id:Nat}{ops:Array Oper}:fF P C (.region id ops false) t H=okN (PW P C ops.toList ops.toList t H):=by
 simp only[fF,okN,zal,if_false]
 try rfl
def aah {id:Nat}{ops:Array Oper}:fF P C (.region id ops true) t H=okN (y7 P C ops.toList t H):=by
 simp only[fF,okN,if_true]
 try rfl
def VZ(ops:List Oper)(t:gG)(j:Nat):Option AV:=(ops[j]?.bind (·.dst)).bind λd=>t[d]?
def Kv(g:Option AV)(d:Bool):Option Bool:=
 match g with
 |some (.s (.bool b))=>some (b==d)
 |some (.tup [])=>some false
 |_=>none
def gdA {β:Type}(g:Option AV)(d:Bool)(x:Option (AV × ah))(H:ah)(k:AV->ah->Option β):Option β:=
 match Kv g d with
 |some b=>gd b x H k
 |none=>none
def Ql {β:Type}{b:Bool}{x:Option (AV × ah)}{k:AV->ah->Option β}:gdA (some aY) b x H k=k aY H:=rfl
def Qm {ops:List Oper}{o:Oper}{j:Nat}{b:Bool}(h:o.guard=some (j,b)):uM ops t o=Kv (VZ ops t j) b:=by
 unfold uM VZ Kv;rw[h];simp only;cases e:ops[j]? with
 |none=>rfl
 |some p=>
  simp only[za4];cases hd:p.dst with
  |none=>rfl
  |some d=>rfl
def TW {t:gG}{i:Nat}{v:AV}(h:i<t.length):(t.set i v).getD i aY=v:=by
 simp[List.getD,h]
def getD_set_ne {t:gG}{i j:Nat}{v:AV}(h:i≠j):(t.set i v).getD j aY=t.getD j aY:=by
 simp[List.getD,h]
def Nr {t:gG}{i:Nat}(h:i<t.length):t[i]?=some (t.getD i aY):=by
 simp[List.getD,h]
def V3 {β:Type}{v:AV}{k:AV->ah->Option β}:bnd (fQ (some v) H) k=k v H:=rfl
def Qn {v:AV}:fQ (some v) H=some (v,H):=rfl
def aso(P:Program)(b:List ResultVar)(r:Res):Option (AV × ah):=
 match r with
 |some (.exit _,_,_)=>none
 |some (_,t,H')=>(jC P b t H').map λv=>(v,H')
 |none=>none
def ajY {f:FuncId}{fn:Func}{c:Code}{args:List AV}(b:P.funcs[f]?=some fn)(hb:fn.body=some c):
  zT P C f args H=aso P fn.results.toList (fF P C c (args++List.replicate (fn.ntmps-args.length) aY) H):=by
 unfold zT aso;simp only[b,hb]
 try rfl
def agL {L:Pol}{f:FuncId}{args:List AV}{r:AV × ah}(b:L.ad5 f=none)(d:L.pure f=false)(h:zT P (callω P L) f args H=some r):callω P L f args H=some r:=
 callω_of (by simp only[Ci,b,d,zal,if_false];exact h)
def ajZ {L:Pol}{f:FuncId}{args:List AV}{v v':AV}{H1:ah}(b:L.ad5 f=none)(d:L.pure f=true)(h:zT P (callω P L) f args H.guard=some (v,H1))(e:bV H1 H.next 9 v=some v'):
  callω P L f args H=some (v',H):=
 callω_of (by simp only[Ci,b,d,if_true,h,e,zaj])
def zq {L:Pol}{f:FuncId}{args:List AV}{r:AV × ah}{p:List AV->AM AV}(b:L.ad5 f=some p)(h:p args H=some r):callω P L f args H=some r:=
 callω_of (by simp only[Ci,b];exact h)
def aeD {f:FuncId}{a c args:List AV}(h:qm P f=true):qo P C (.fn (.func f) a c) args H=C f (a++args++c) H:=by
 simp only[qo,h,if_true]
end
def dO {α:Type}{P:Program}{a:α}:je P (Pure.pure a)=some a:=rfl
section
variable {P:Program}{t:TypeId}{k:IntKind}{a b:Int}
def aai:pY P .lss t (.s (.int k a)) (.s (.int k b))=some (.s (.bool (decide (a<b)))):=by
 simp[pY,AV.val?,eqGuard,binOp,Op.intCmp,dO]
def aaj:pY P .leq t (.s (.int k a)) (.s (.int k b))=some (.s (.bool (decide (a<=b)))):=by
 simp[pY,AV.val?,eqGuard,binOp,Op.intCmp,dO]
def TY:pY P .gtr t (.s (.int k a)) (.s (.int k b))=some (.s (.bool (decide (b<a)))):=by
 simp[pY,AV.val?,eqGuard,binOp,Op.intCmp,dO]
def Ns:pY P .geq t (.s (.int k a)) (.s (.int k b))=some (.s (.bool (decide (b<=a)))):=by
 simp[pY,AV.val?,eqGuard,binOp,Op.intCmp,dO]
def aak:pY P .eql t (.s (.int k a)) (.s (.int k b))=some (.s (.bool (decide (a=b)))):=by
 simp[pY,AV.val?,eqGuard,binOp,Op.intCmp,dO];by_cases h:a=b <;> simp[h]
def aal:pY P .neq t (.s (.int k a)) (.s (.int k b))=some (.s (.bool (!decide (a=b)))):=by
 simp[pY,AV.val?,eqGuard,binOp,Op.intCmp,dO];by_cases h:a=b <;> simp[h]
def bI:pY P .add t (.s (.int k a)) (.s (.int k b))=some (.s (.int k (k.wrap (a+b)))):=by
 simp[pY,AV.val?,eqGuard,binOp,Op.intArith,dO]
def lH:pY P .sub t (.s (.int k a)) (.s (.int k b))=some (.s (.int k (k.wrap (a-b)))):=by
 simp[pY,AV.val?,eqGuard,binOp,Op.intArith,dO]
def iM:pY P .mul t (.s (.int k a)) (.s (.int k b))=some (.s (.int k (k.wrap (a*b)))):=by
 simp[pY,AV.val?,eqGuard,binOp,Op.intArith,dO]
def aj0(h:b≠0):pY P .quo t (.s (.int k a)) (.s (.int k b))=some (.s (.int k (k.wrap (a.tdiv b)))):=by
 simp[pY,AV.val?,eqGuard,binOp,Op.intDiv,dO,h]
def vk(h:b≠0):pY P .rem t (.s (.int k a)) (.s (.int k b))=some (.s (.int k (a.tmod b))):=by
 simp[pY,AV.val?,eqGuard,binOp,Op.intDiv,dO,h]
def aam {d:Array TypeId}:kF P false d t [.s (.int k a),.s (.int k b)]=some (.s (.int k (min a b))):=by
 simp[kF,vals?,AV.val?,Builtin.min_,Builtin.min2,dO,Int.min_def];split <;> split <;> first|rfl|omega
def Nu {d:Array TypeId}:kF P true d t [.s (.int k a),.s (.int k b)]=some (.s (.int k (max a b))):=by
 simp[kF,vals?,AV.val?,Builtin.max_,Builtin.max2,dO,Int.max_def];split <;> split <;> first|rfl|omega
def V4 {b:Bool}:unA P .not (.s (.bool b))=some (.s (.bool (!b))):=by
 simp[unA,AV.val?,Op.unary,dO]
def amx(b:-9223372036854775808<=a)(d:a<=9223372036854775807):IntKind.wrap .i64 a=a:=by
 simp only[IntKind.wrap,IntKind.bits,IntKind.signed];simp;omega
end
def au(x:AV)(o:Nat):Option AV:=
 match x with
 |.ref r g off=>some (.ref r g (off+o))
 |.ip cells=>some (.ip (cells.drop o))
 |_=>none
def rC {r g off o:Nat}:au (.ref r g off) o=some (.ref r g (off+o)):=rfl
def zx {cells:List AV}{o:Nat}:au (.ip cells) o=some (.ip (cells.drop o)):=rfl
def V5 {t:TypeId}{v:AV}{H:ah}(h:v.cells.all AV.aS=true)(b:t<1000000000):fM t v H=some (.ref H.next 0 0,H.new (.blk 0 t v.cells)):=by
 unfold fM;rw[if_pos ⟨h,b⟩]
def eH {l:List AV}:(AV.agg l).cells=l:=rfl
def Qo {k:IntKind}{n:Int}:(AV.s (.int k n)).cells=[.s (.int k n)]:=rfl
def Kw {b:Bool}:(AV.s (.bool b)).cells=[.s (.bool b)]:=rfl
def iI {k:IntKind}{n:Int}:(AV.s (.int k n)).aS=true:=rfl
def kR {b:Bool}:(AV.s (.bool b)).aS=true:=rfl
def Ky {r g off:Nat}:(AV.ref r g off).aS=true:=rfl
def KA {a b:Nat}:(AV.s (.slice none a b)).aS=true:=rfl
def aan {r:Nat}:(AV.mp r).aS=true:=rfl
section
variable {H:ah}{r r':Nat}{o:gB}
def jw:(H.new o).get r=if r=H.next then o else H.get r:=rfl
def dP:(H.put r' o).get r=if r=r' then o else H.get r:=rfl
def EP:(H.new o).next=H.next+1:=rfl
def aeE:(H.put r o).base=H.base:=rfl
end
section
variable (P:Program)(C:aA)(ops:List Oper)
def Ae:List Oper->List Bool->gG->ah->Option (gG × ah)
 |o::os,true::b,t,H=>bnd (opA P C t o H) λv H=>Ae os b (wF t o.dst v) H
 |_::os,false::b,t,H=>Ae os b t H
 |[],[],t,H=>some (t,H)
 |_,_,_,_=>none
def aao:List (Option Bool):=(List.range ops.length).map λi=>if cst ops i=true then none else some (loose ops i && mM (qp ops i))
def Hl:List Bool:=(List.range ops.length).map (cst ops)
end
section
variable {P:Program}{C:aA}{ops:List Oper}
def Qp:∀(l pre:List Oper) (t:gG) (H:ah),pre++l=ops->
  iW P C ops ((List.range' pre.length l.length).filter (cst ops)) t H=Ae P C l ((List.range' pre.length l.length).map (cst ops)) t H
 |[],pre,t,H,_=>rfl
 |o::l,pre,t,H,h=>by
  have d:ops[pre.length]?=some o:=by rw[<-h];simp
  have b:=λt H=>Qp l (pre++[o]) t H (by simpa using h);simp only[zar,zak,zan]at b;rw[zak,zc7,zaD,zb2];cases hc:cst ops pre.length with
  |false=>
   simp only[zal,if_false,Ae];exact b t H
  |true=>
   simp only[if_true,iW,d,Ae];cases e:opA P C t o H with
   |none=>rfl
   |some r=>exact b _ _
def unG(H:ah)(r:Option (AV × ah)):Option (AV × ah):=
 match r with
 |some (v,H')=>some (v,{ H' with base:=H.base })
 |none=>none
def V6 {H:ah}{v:AV}:unG H (some (v,H.guard))=some (v,H):=rfl
end
def nx1(n:Nat):(n=n+1)=False:=eq_false V
def ny1(n:Nat):(n+1=n)=False:=eq_false V
def nx2(n:Nat):(n=n+1+1)=False:=eq_false V
def ny2(n:Nat):(n+1+1=n)=False:=eq_false V
def nx3(n:Nat):(n=n+1+1+1)=False:=eq_false V
def ny3(n:Nat):(n+1+1+1=n)=False:=eq_false V
structure Ann where
 live:List (Nat × List Nat)
 draw:List (Nat × List (Option Bool))
 pairs:List (Nat × List (Nat × Nat))
def kW {α:Type}(d:α):List (Nat × α)->Nat->α
 |[],_=>d
 |(k,v)::l,n=>bif Nat.beq k n then v else kW d l n
def jW:Code->Nat
 |.region id _ _=>id+1
 |.seq a b=>match jW a with
  |0=>jW b
  |n+1=>n+1
 |.cond _ a b=>match jW a with
  |0=>jW b
  |n+1=>n+1
 |.block _ a=>jW a
 |.loop a=>jW a
 |_=>0
def bo {α β:Type}(x:Option α)(k:α->Option β):Option β:=
 match x with
 |some v=>k v
 |none=>none
def aQ {β:Type}(c:AV)(x y:Option β):Option β:=
 match c with
 |.s (.bool true)=>x
 |.s (.bool false)=>y
 |_=>none
def Ho {β:Type}(B:List AV->ah->(List AV->ah->Option β)->Option β):Nat->List AV->ah->Option β
 |0,_,_=>none
 |n+1,s,H=>B s H (Ho B n)
def aap {β:Type}(B:List AV->ah->(List AV->ah->Option β)->Option β):List AV->ah->Option β:=λs H=>ajV λn=>Ho B n s H
abbrev Env:=List (Nat × AV)
def Pz:Env->Nat->AV
 |[],_=>aY
 |(d,v)::e,i=>bif Nat.beq d i then v else Pz e i
def vw(n:Nat)(e:Env):Operand->AV
 |.tmp i=>bif Nat.blt i n then Pz e i else aY
 |.const v=>.s v
 |.global g=>.s (.pointer (some ⟨g,0,none⟩))
 |.func f=>.fn (.func f) [] []
def agM(e:Env)(dst:Option Tmp)(v:AV):Env:=
 match dst with
 |some d=>(d,v)::e
 |none=>e
def Qq:List AV->Nat->Env
 |[],_=>[]
 |a::l,i=>(i,a)::Qq l (i+1)
def yI(M:List Nat)(e:Env):List AV:=match M with
 |[]=>[]
 |i::M=>Pz e i::yI M e
def emb(s:List AV):List Nat->Nat->Env
 |[],_=>[]
 |m::M,j=>(m,s.getD j aY)::emb s M (j+1)
section
variable {β:Type}(P:Program)(C:aA)
def aj1(ev:Operand->AV)(c:Call)(type:TypeId):AM AV:=λH=>
 match c.callee with
 |.value f=>qo P C (ev f) (c.args.toList.map ev) H
 |.builtin b=>iV P b c.argTypes type (c.args.toList.map ev) H
 |.invoke _ _=>none
def opE(ev:Operand->AV)(o:Oper):AM AV:=
 match o.op with
 |.move x=>fQ (some (ev x))
 |.assign x=>fQ (some (ev x))
 |.pick c a b=>fQ (bJ (ev c) (ev a) (ev b))
 |.alloc e=>JW P e
 |.box e x=>fM e (ev x)
 |.build d ps=>fQ (fV P d (ps.toList.map λp=>(p.1,ev p.2)))
 |.buildSlice d n ps=>dH P d n (ps.toList.map λp=>(p.1,ev p.2))
 |.load d x=>Tj P d (ev x)
 |.store d x v=>PU P d (ev x) (ev v)
 |.nilCheck x=>fQ (ay (ev x))
 |.binOp op d x y _=>fQ (amg P op d y (ev x) (ev y))
 |.unOp op _ x=>fQ (unA P op (ev x))
 |.convert src dst x=>kL P src dst (ev x)
 |.makeFunc f a c=>fQ (some (.fn f (a.toList.map ev) (c.toList.map ev)))
 |.makeMap d none=>xR P d
 |.makeSlice d l c=>qc P d (ev l) (ev c)
 |.slice d x lo hi g=>fQ (PS P d (ev x) (lo.map ev) (hi.map ev) (g.map ev))
 |.fieldAddr d x i=>fQ (tC P d (ev x) i)
 |.field d x i=>fQ (PN P d (ev x) i)
 |.indexAddr d x i=>BX P d (ev x) (ev i)
 |.index d x i=>fQ (PO P d (ev x) (ev i))
 |.lookup d x i ok=>Tn P d (ev x) (ev i) ok
 |.mapUpdate d m k v=>tJ P d (ev m) (ev k) (ev v)
 |.extract x i=>fQ (aF (ev x) i)
 |.call c=>aj1 P C ev c o.type
 |_=>λ_=>none
def KC(ev:Operand->AV):Op->Option Nat
 |.load _ x=>bQ (ev x)
 |.lookup _ x _ _=>bQ (ev x)
 |.indexAddr _ x _=>bQ (ev x)
 |.convert _ _ x=>bQ (ev x)
 |.call c=>match c.args.toList with
  |[x]=>bQ (ev x)
  |_=>none
 |_=>none
def opK(ev:Operand->AV)(o:Oper)(H:ah)(k:AV->ah->Option β):Option β:=
 match o.op with
 |.move x=>k (ev x) H
 |.assign x=>k (ev x) H
 |.pick c a b=>bo (bJ (ev c) (ev a) (ev b)) λv=>k v H
 |.build d ps=>bo (fV P d (ps.toList.map λp=>(p.1,ev p.2))) λv=>k v H
 |.nilCheck x=>bo (ay (ev x)) λv=>k v H
 |.binOp op d x y _=>bo (amg P op d y (ev x) (ev y)) λv=>k v H
 |.unOp op _ x=>bo (unA P op (ev x)) λv=>k v H
 |.makeFunc f a c=>k (.fn f (a.toList.map (ev)) (c.toList.map (ev))) H
 |.slice d x lo hi e=>bo (PS P d (ev x) (lo.map (ev)) (hi.map (ev)) (e.map (ev))) λv=>k v H
 |.fieldAddr d x i=>bo (tC P d (ev x) i) λv=>k v H
 |.field d x i=>bo (PN P d (ev x) i) λv=>k v H
 |.index d x i=>bo (PO P d (ev x) (ev i)) λv=>k v H
 |.extract x i=>bo (aF (ev x) i) λv=>k v H
 |_=>bnd (opE P C ev o H) k
def Qr(n:Nat)(ops:List Oper)(e:Env)(j:Nat):Option AV:=
 match ops[j]? with
 |some p=>match p.dst with
  |some d=>bif Nat.blt d n then some (Pz e d)else none
  |none=>none
 |none=>none
def Yv(n:Nat)(ops:List Oper)(lo:Bool)(o:Oper)(t:Env)(H:ah)(k:AV->ah->Option β):Option β:=
 match o.guard with
 |none=>match lo with
  |true=>bnd (unG H (opE P C (vw n t) o H.guard)) k
  |false=>opK P C (vw n t) o H k
 |some (j,b)=>match lo with
  |true=>gdA (Qr n ops t j) b (unG H (opE P C (vw n t) o H.guard)) H k
  |false=>gdA (Qr n ops t j) b (opE P C (vw n t) o H) H k
def amy(n:Nat)(ops:List Oper):List Oper->Env->ah->(Env->ah->Option β)->Option β
 |[],t,H,k=>k t H
 |o::rest,t,H,k=>Yv P C n ops false o t H λv H=>amy n ops rest (agM t o.dst v) H k
def KD(n:Nat):List Oper->List (Option Bool)->Env->ah->(Env->ah->Option β)->Option β
 |o::os,none::b,t,H,k=>bnd (opE P C (vw n t) o H) λv H=>KD n os b (agM t o.dst v) H k
 |_::os,some _::b,t,H,k=>KD n os b t H k
 |[],[],t,H,k=>k t H
 |_,_,_,_,_=>none
abbrev Log:=List (Nat × Option Nat × ah × ah)
def ED:Log->Nat->Option (Option Nat × ah × ah)
 |[],_=>none
 |(i,x)::l,n=>bif Nat.beq i n then some x else ED l n
open Classical in
def ck(w:Option Nat)(H H':ah)(k:Option β):Option β:=if∀r,w=some r->H'.get r=H.get r then k else none
open Classical in
def ckR(s b:Nat)(H H':ah)(k:Option β):Option β:=if∀r,s<=r->r<b->H'.get r=H.get r then k else none
def ckL(ops:List Oper)(s d:Nat)(b:Log):List (Nat × Nat)->Option β->Option β
 |[],k=>k
 |(j,e)::ps,k=>match cst ops j with
  |true=>match ED b e with
   |some (_,H,H')=>ckR s d H H' (ckL ops s d b ps k)
   |none=>none
  |false=>match ED b j,ED b e with
   |some (w,_,_),some (_,H,H')=>ck w H H' (ckL ops s d b ps k)
   |_,_=>none
def JH(n:Nat)(ops:List Oper)(s d:Nat)(ps:List (Nat × Nat)):List Oper->List (Option Bool)->Nat->Env->ah->Log->(Env->ah->Option β)->Option β
 |o::os,some lo::e,i,t,H,b,k=>Yv P C n ops lo o t H λv H'=>JH n ops s d ps os e (i+1) (agM t o.dst v) H' ((i,KC (vw n t) o.op,H,H')::b) k
 |_::os,none::e,i,t,H,b,k=>JH n ops s d ps os e (i+1) t H b k
 |[],[],_,t,H,b,k=>ckL ops s d b ps (k t H)
 |_,_,_,_,_,_,_=>none
def kY(A:Ann)(n:Nat):Code->Env->ah->(Env->ah->Option β)->(Nat->Env->ah->Option β)->(Env->ah->Option β)->Option β
 |.skip=>λt H kn _ _=>kn t H
 |.region id ops d=>λt H kn _ _=>
  match d with
  |true=>KD P C n ops.toList (kW [] A.draw id) t H λt H0=>JH P C n ops.toList H.next H0.next (kW [] A.pairs id) ops.toList (kW [] A.draw id) 0 t H0 [] kn
  |false=>amy P C n ops.toList ops.toList t H kn
 |.seq a b=>λt H kn kx kr=>kY A n a t H (λt H=>kY A n b t H kn kx kr) kx kr
 |.cond c a b=>λt H kn kx kr=>aQ (vw n t c) (kY A n a t H kn kx kr) (kY A n b t H kn kx kr)
 |.block id a=>λt H kn kx kr=>kY A n a t H kn (λi t H=>match Nat.beq i id with
  |true=>kn t H
  |false=>kx i t H) kr
 |.loop a=>λt H _ kx kr=>aap (λs H k=>kY A n a (emb s (kW [] A.live (jW a)) 0) H (λt H=>k (yI (kW [] A.live (jW a)) t) H) kx kr) (yI (kW [] A.live (jW a)) t) H
 |.exit i=>λt H _ kx _=>kx i t H
 |.ret=>λt H _ _ kr=>kr t H
 |_=>λ_ _ _ _ _=>none
def wo(A:Ann)(n:Nat):Code->(Env->ah->Option β)->(Nat->Env->ah->Option β)->(Env->ah->Option β)->List (List AV->ah->Option β)
 |.seq a b=>λkn kx kr=>wo A n a (λt H=>kY P C A n b t H kn kx kr) kx kr++wo A n b kn kx kr
 |.cond _ a b=>λkn kx kr=>wo A n a kn kx kr++wo A n b kn kx kr
 |.block id a=>λkn kx kr=>wo A n a kn (λi t H=>match Nat.beq i id with
  |true=>kn t H
  |false=>kx i t H) kr
 |.loop a=>λ_ kx kr=>aap (λs H k=>kY P C A n a (emb s (kW [] A.live (jW a)) 0) H (λt H=>k (yI (kW [] A.live (jW a)) t) H) kx kr)::
   wo A n a (λt H=>aap (λs H k=>kY P C A n a (emb s (kW [] A.live (jW a)) 0) H (λt H=>k (yI (kW [] A.live (jW a)) t) H) kx kr) (yI (kW [] A.live (jW a)) t) H) kx kr
 |_=>λ_ _ _=>[]
def pq(A:Ann)(n:Nat):Code->(Env->ah->Option β)->(Nat->Env->ah->Option β)->(Env->ah->Option β)->List (List AV->ah->Option β)
 |.seq a b=>λkn kx kr=>pq A n a (λt H=>kY P C A n b t H kn kx kr) kx kr++pq A n b kn kx kr
 |.cond _ a b=>λkn kx kr=>pq A n a kn kx kr++pq A n b kn kx kr
 |.block id a=>λkn kx kr=>pq A n a kn (λi t H=>match Nat.beq i id with
  |true=>kn t H
  |false=>kx i t H) kr
 |.loop a=>λ_ kx kr=>(λs H=>kY P C A n a (emb s (kW [] A.live (jW a)) 0) H (λt H=>aap (λs H k=>kY P C A n a (emb s (kW [] A.live (jW a)) 0) H (λt H=>k (yI (kW [] A.live (jW a)) t) H) kx kr) (yI (kW [] A.live (jW a)) t) H) kx kr)::
   pq A n a (λt H=>aap (λs H k=>kY P C A n a (emb s (kW [] A.live (jW a)) 0) H (λt H=>k (yI (kW [] A.live (jW a)) t) H) kx kr) (yI (kW [] A.live (jW a)) t) H) kx kr
 |_=>λ_ _ _=>[]
end
section
variable (P:Program)
def Ua(n:Nat)(t:Env)(H:ah):List ResultVar->(List AV->Option (AV × ah))->Option (AV × ah)
 |[],k=>k []
 |.tmp d::b,k=>Ua n t H b λl=>k (vw n t (.tmp d)::l)
 |.cell a e::b,k=>bnd (Tj P e (vw n t (.tmp a)) H) λv _=>Ua n t H b λl=>k (v::l)
def avo(H:ah):List AV->Option (AV × ah)
 |[x]=>some (x,H)
 |xs=>some (.tup xs,H)
def PD(n:Nat)(b:List ResultVar)(t:Env)(H:ah):Option (AV × ah):=Ua P n t H b (avo H)
end
def yJ {β:Type}(F:(List AV->ah->Option β)->Option β):Prop:=
 ∀k r,F k=some r->(∀k',F k'=some r)∨∃s H,k s H=some r/\∀k',k' s H=some r->F k'=some r
section
variable {β:Type}
def gZ(x:Option β):yJ λ_=>x:=λ_ _ h=>.inl λ_=>h
def aaq(s:List AV)(H:ah):yJ λ(k:List AV->ah->Option β)=>k s H:=λ_ _ h=>.inr ⟨s,H,h,λ_ h=>h⟩
def V7 {x:Option (AV × ah)}{K:(List AV->ah->Option β)->AV->ah->Option β}(h:∀v H,yJ λk=>K k v H):yJ λk=>bnd x (K k):=by
 rcases x with _|⟨v,H⟩
 ·exact gZ none
 ·exact h v H
def asq {b:Bool}{x:Option (AV × ah)}{H:ah}{K:(List AV->ah->Option β)->AV->ah->Option β}(h:∀v H,yJ λk=>K k v H):yJ λk=>gd b x H (K k):=by
 cases b
 ·exact h aY H
 ·exact V7 h
def amA {g:Option AV}{d:Bool}{x:Option (AV × ah)}{H:ah}{K:(List AV->ah->Option β)->AV->ah->Option β}(h:∀v H,yJ λk=>K k v H):yJ λk=>gdA g d x H (K k):=by
 unfold gdA;cases Kv g d with
 |none=>exact gZ none
 |some b=>exact asq h
def aeF {c:AV}{x y:(List AV->ah->Option β)->Option β}(b:yJ x)(d:yJ y):yJ λk=>aQ c (x k) (y k):=by
 unfold aQ;split
 ·exact b
 ·exact d
 ·exact gZ none
variable {P:Program}{C:aA}
def agN {t:Operand->AV}{o:Oper}{H:ah}{k:AV->ah->Option β}:opK P C t o H k=bnd (opE P C t o H) k:=by
 obtain⟨dst,op,b,d,after,guard⟩:=o;have key:∀x:Option AV,bo x (λv=>k v H)=bnd (fQ x H) k:=by intro x;cases x <;> rfl
 cases op <;> first|rfl|exact key _
def KG {n:Nat}{ops:List Oper}{lo:Bool}{o:Oper}{t:Env}{H:ah}{K:(List AV->ah->Option β)->AV->ah->Option β}(h:∀v H,yJ λk=>K k v H):yJ λk=>Yv P C n ops lo o t H (K k):=by
 unfold Yv;cases o.guard with
 |none=>
  cases lo with
  |false=>simp only[agN];exact V7 h
  |true=>exact V7 h
 |some g=>cases lo <;> exact amA h
def Qs {n:Nat}{ops:List Oper}{K:(List AV->ah->Option β)->Env->ah->Option β}(h:∀t H,yJ λk=>K k t H):∀(l:List Oper) (t:Env) (H:ah),yJ λk=>amy P C n ops l t H (K k)
 |[],t,H=>h t H
 |o::l,t,H=>KG λv H=>Qs h l _ H
def zy {n:Nat}{K:(List AV->ah->Option β)->Env->ah->Option β}(h:∀t H,yJ λk=>K k t H):∀(l:List Oper) (d:List (Option Bool)) (t:Env) (H:ah),yJ λk=>KD P C n l d t H (K k)
 |[],[],t,H=>h t H
 |[],f::d,t,H=>gZ none
 |o::l,[],t,H=>gZ none
 |o::l,none::d,t,H=>V7 λv H=>zy h l d _ H
 |o::l,some b::d,t,H=>zy h l d t H
def aj2 {w:Option Nat}{H H':ah}{K:(List AV->ah->Option β)->Option β}(h:yJ K):yJ λk=>ck w H H' (K k):=by
 unfold ck;split
 ·exact h
 ·exact gZ none
def aeG {s b:Nat}{H H':ah}{K:(List AV->ah->Option β)->Option β}(h:yJ K):yJ λk=>ckR s b H H' (K k):=by
 unfold ckR;split
 ·exact h
 ·exact gZ none
def Nv {ops:List Oper}{s d:Nat}{b:Log}{K:(List AV->ah->Option β)->Option β}(h:yJ K):∀ps,yJ λk=>ckL ops s d b ps (K k)
 |[]=>h
 |(j,e)::ps=>by
  simp only[ckL];cases cst ops j with
  |true=>
   cases ED b e with
   |none=>exact gZ none
   |some y=>exact aeG (Nv h ps)
  |false=>
   cases ED b j with
   |none=>exact gZ none
   |some x=>
    cases ED b e with
    |none=>exact gZ none
    |some y=>exact aj2 (Nv h ps)
def CB {n:Nat}{ops:List Oper}{s e:Nat}{ps:List (Nat × Nat)}{K:(List AV->ah->Option β)->Env->ah->Option β}(h:∀t H,yJ λk=>K k t H):∀(l:List Oper) (d:List (Option Bool)) (i:Nat) (t:Env) (H:ah) (b:Log),yJ λk=>JH P C n ops s e ps l d i t H b (K k)
 |[],[],i,t,H,b=>Nv (h t H) ps
 |[],f::d,i,t,H,b=>gZ none
 |o::l,[],i,t,H,b=>gZ none
 |o::l,none::d,i,t,H,b=>CB h l d (i+1) t H b
 |o::l,some lo::d,i,t,H,b=>by
  exact KG λv H'=>CB h l d (i+1) _ H' _
def tY {B:List AV->ah->(List AV->ah->Option β)->Option β}(d:∀s H,yJ (B s H)):∀m s H r,Ho B m s H=some r->Ho B (m+1) s H=some r:=by
 intro m
 induction m with
 |zero=>intro s H r h;cases h
 |succ m e=>
  intro s H r h;rcases d s H _ r h with b|⟨i,H',b,g⟩
  ·exact b _
  ·exact g _ (e _ _ _ b)
def aj3 {B:List AV->ah->(List AV->ah->Option β)->Option β}(d:∀s H,yJ (B s H))(s:List AV)(H:ah):aap B s H=B s H (aap B):=by
 have j:∀r,B s H (aap B)=some r->aap B s H=some r:=by
  intro r h;rcases d s H _ r h with b|⟨e,H',b,i⟩
  ·exact wQ (g:=λn=>Ho B n s H) (λn r=>tY d n s H r) (n:=1) (b _)
  ·obtain⟨m,hm⟩:=lN b;exact wQ (g:=λn=>Ho B n s H) (λn r=>tY d n s H r) (n:=m+1) (i _ hm)
 cases h:aap B s H with
 |none=>
  cases k:B s H (aap B)with
  |none=>rfl
  |some r=>rw[j r k]at h;cases h
 |some r=>
  obtain⟨m,hm⟩:=lN h;cases m with
  |zero=>cases hm
  |succ m=>
   symm;rcases d s H _ r hm with b|⟨e,H',b,i⟩
   ·exact b _
   ·exact i _ (wQ (g:=λn=>Ho B n e H') (λn r=>tY d n e H' r) b)
def KI {A:Ann}{n:Nat}:∀(c:Code) (t:Env) (H:ah) (kn:(List AV->ah->Option β)->Env->ah->Option β) (kx:(List AV->ah->Option β)->Nat->Env->ah->Option β) (kr:(List AV->ah->Option β)->Env->ah->Option β),
  (∀t H,yJ λk=>kn k t H)->(∀i t H,yJ λk=>kx k i t H)->(∀t H,yJ λk=>kr k t H)->yJ λk=>kY P C A n c t H (kn k) (kx k) (kr k):=by
 intro c
 induction c with
 |skip=>intro t H kn kx kr e g o;exact e t H
 |region id ops d=>
  intro t H kn kx kr e g o;simp only[kY];cases d with
  |false=>
   exact Qs e _ _ _
  |true=>
   exact zy (λv H=>CB e _ _ _ _ _ _) _ _ _ _
 |seq a b p q=>
  intro t H kn kx kr e g o;exact p t H (λk t H=>kY P C A n b t H (kn k) (kx k) (kr k)) kx kr (λt H=>q t H kn kx kr e g o) g o
 |cond c a b p q=>
  intro t H kn kx kr e g o;exact aeF (p t H kn kx kr e g o) (q t H kn kx kr e g o)
 |block id a u=>
  intro t H kn kx kr e g o;exact u t H kn (λk i t H=>match Nat.beq i id with
   |true=>kn k t H
   |false=>kx k i t H) kr e (λi t H=>by
   cases hb:Nat.beq i id with
   |true=>simp only[hb];exact e t H
   |false=>simp only[hb];exact g i t H) o
 |loop a u=>
  intro t H kn kx kr e g o;simp only[kY];generalize kW [] A.live (jW a)=M;have D:∀m s H,yJ λk=>Ho (λs H j=>kY P C A n a (emb s M 0) H (λt H=>j (yI M t) H) (kx k) (kr k)) m s H:=by
   intro m
   induction m with
   |zero=>intro s H;exact gZ none
   |succ m w=>intro s H;exact u _ H (λk t H=>Ho (λs H j=>kY P C A n a (emb s M 0) H (λt H=>j (yI M t) H) (kx k) (kr k)) m (yI M t) H) kx kr (λt H=>w _ H) g o
  have z:∀(k:List AV->ah->Option β) s H,yJ ((λs H j=>kY P C A n a (emb s M 0) H (λt H=>j (yI M t) H) (kx k) (kr k)) s H):=λk s H=>
   u _ H (λj t H=>j (yI M t) H) (λ_=>kx k) (λ_=>kr k) (λt H=>aaq _ _) (λi t H=>gZ _) (λt H=>gZ _)
  intro k r h;obtain⟨m,hm⟩:=lN h;rcases D m _ _ k r hm with y|⟨E,H',y,F⟩
  ·exact .inl λk'=>wQ (λn r=>tY (z k') n _ _ r) (y k')
  ·exact .inr ⟨E,H',y,λk' hk=>wQ (λn r=>tY (z k') n _ _ r) (F k' hk)⟩
 |exit i=>intro t H kn kx kr e g o;exact g i t H
 |ret=>intro t H kn kx kr e g o;exact o t H
 |_=>intro t H kn kx kr e g o;exact gZ none
def aeH {A:Ann}{n:Nat}:∀(c:Code) (kn:Env->ah->Option β) (kx:Nat->Env->ah->Option β) (kr:Env->ah->Option β),wo P C A n c kn kx kr=pq P C A n c kn kx kr:=by
 intro c
 induction c with
 |seq a b d e=>intro kn kx kr;simp only[wo,pq,d,e]
 |cond c a b d e=>intro kn kx kr;simp only[wo,pq,d,e]
 |block id a g=>intro kn kx kr;simp only[wo,pq,g]
 |loop a g=>
  intro kn kx kr;simp only[wo,pq,g]
  congr 1
  funext s H
  exact aj3 (λs H=>KI a _ H (λj t H=>j (yI _ t) H) (λ_=>kx) (λ_=>kr) (λt H=>aaq _ _) (λi t H=>gZ _) (λt H=>gZ _)) s H
 |_=>intro kn kx kr;rfl
end
def agO:List Operand->Nat
 |[]=>0
 |.tmp d::xs=>2 ^ d ||| agO xs
 |_::xs=>agO xs
def auY(d L:Nat):Nat:=L ^^^ (L &&& 2 ^ d)
def agP(ops:List Oper)(o:Oper):Nat:=
 match o.guard with
 |none=>0
 |some (j,_)=>match ops[j]? with
  |some p=>match p.dst with
   |some d=>2 ^ d
   |none=>0
  |none=>0
def Yw(ops:List Oper)(o:Oper)(L:Nat):Nat:=
 (agO o.op.operands.toList ||| agP ops o) ||| (match o.dst with
  |some d=>auY d L
  |none=>L)
def Ub(ops:List Oper):List Oper->Nat->Nat
 |[],L=>L
 |o::os,L=>Yw ops o (Ub ops os L)
def aeI(ops:List Oper):List Oper->List (Option Bool)->Nat->Nat
 |o::os,none::b,L=>Yw ops o (aeI ops os b L)
 |_::os,some _::b,L=>aeI ops os b L
 |_,_,L=>L
def Uc(ops:List Oper):List Oper->List (Option Bool)->Nat->Nat
 |o::os,some _::b,L=>Yw ops o (Uc ops os b L)
 |_::os,none::b,L=>Uc ops os b L
 |_,_,L=>L
def pU:List Nat->Nat
 |[]=>0
 |i::M=>2 ^ i ||| pU M
def zA(A:Ann):Code->Nat->(Nat->Nat)->Nat->Nat
 |.skip=>λe _ _=>e
 |.region id ops d=>λe _ _=>cond d (aeI ops.toList ops.toList (kW [] A.draw id) (Uc ops.toList ops.toList (kW [] A.draw id) e)) (Ub ops.toList ops.toList e)
 |.seq a b=>λe g h=>zA A a (zA A b e g h) g h
 |.cond c a b=>λe g h=>agO [c] ||| (zA A a e g h ||| zA A b e g h)
 |.block id a=>λe g h=>zA A a e (λi=>cond (Nat.beq i id) e (g i)) h
 |.loop a=>λ_ _ _=>pU (kW [] A.live (jW a))
 |.exit i=>λ_ g _=>g i
 |.ret=>λ_ _ h=>h
 |_=>λ_ _ _=>0
def amB:List (Option Bool)->List (Option Bool)->Bool
 |[],[]=>true
 |none::a,none::b=>amB a b
 |some x::a,some y::b=>(x==y) && amB a b
 |_,_=>false
def arP:List (Nat × Nat)->List (Nat × Nat)->Bool
 |[],[]=>true
 |(a,b)::l,(c,d)::m=>Nat.beq a c && (Nat.beq b d && arP l m)
 |_,_=>false
def Qu(A:Ann)(n:Nat):Code->Nat->(Nat->Nat)->Nat->Bool
 |.region id ops d=>λ_ _ _=>cond d (VG ops.toList && (arP (lW ops.toList) (kW [] A.pairs id) && amB (aao ops.toList) (kW [] A.draw id))) true
 |.seq a b=>λh e g=>Qu A n a (zA A b h e g) e g && Qu A n b h e g
 |.cond _ a b=>λh e g=>Qu A n a h e g && Qu A n b h e g
 |.block id a=>λh e g=>Qu A n a h (λi=>cond (Nat.beq i id) h (e i)) g
 |.loop a=>λ_ e g=>(let M:=pU (kW [] A.live (jW a));let X:=zA A a M e g;Nat.beq (M ||| X) M && Qu A n a M e g)
 |_=>λ_ _ _=>true
structure Ag(n L:Nat)(t:gG)(e:Env):Prop where
 len:t.length=n
 get:∀i,i<n->L.testBit i=true->t.getD i aY=Pz e i
def Ag.sub {n L b:Nat}{t:gG}{e:Env}(h:Ag n L t e)(d:∀i,b.testBit i=true->L.testBit i=true):Ag n b t e:=⟨h.len,λi g hi=>h.get i g (d i hi)⟩
def Ag.left {n L b:Nat}{t:gG}{e:Env}(h:Ag n (L ||| b) t e):Ag n L t e:=h.sub λi hi=>by rw[zcH,hi];rfl
def Ag.right {n L b:Nat}{t:gG}{e:Env}(h:Ag n (L ||| b) t e):Ag n b t e:=h.sub λi hi=>by rw[zcH,hi];simp
def V8 {i n:Nat}(h:i<n):Nat.blt i n=true:=by simpa [Nat.blt_eq]using h
def Qv {i n:Nat}(h:n<=i):Nat.blt i n=false:=by
 cases hb:Nat.blt i n with
 |false=>rfl
 |true=>rw[Nat.blt_eq]at hb;omega
def vC {d:Nat}:(2 ^ d).testBit d=true:=by rw[zdb];simp
def V9:∀(xs:List Operand) (d:Nat),Operand.tmp d∈xs->(agO xs).testBit d=true
 |x::xs,d,h=>by
  rcases zao.1 h with rfl|h
  ·simp only[agO];rw[zcH,vC];rfl
  ·have:=V9 xs d h;cases x with
   |tmp e=>simp only[agO];rw[zcH,this];simp
   |_=>exact this
def Ag.tmp {n L:Nat}{t:gG}{e:Env}(h:Ag n L t e){d:Nat}(hd:L.testBit d=true):t.getD d aY=vw n e (.tmp d):=by
 have g:=h.len;rcases zaU d n with b|b
 ·simp only[vw,V8 b,cond_true];exact h.get d b hd
 ·simp only[vw,Qv b,cond_false];simp[List.getD,g,b]
def Ag.eval {n:Nat}{xs:List Operand}{t:gG}{e:Env}(h:Ag n (agO xs) t e){x:Operand}(b:x∈xs):dS t x=vw n e x:=by
 cases x with
 |tmp d=>exact h.tmp (V9 xs d b)
 |_=>rfl
def Ag.put {n L:Nat}{t:gG}{e:Env}{o:Oper}{ops:List Oper}(h:Ag n (Yw ops o L) t e)(v:AV):Ag n L (wF t o.dst v) (agM e o.dst v):=by
 have g:=h.right;cases hd:o.dst with
 |none=>rw[hd]at g;exact g
 |some d=>
  rw[hd]at g;have k:=h.len;refine⟨by simp[wF,h.len],λi j hi=>?_⟩;by_cases b:d=i
  ·subst b;simp only[wF,agM,Pz,Nat.beq_refl,cond_true];rw[TW V]
  ·have hb:Nat.beq d i=false:=zdL.2 λh=>b (zbJ h);simp only[wF,agM,Pz,hb,cond_false];rw[getD_set_ne b];refine g.get i j ?_;simp only[auY,Nat.testBit_xor,Nat.testBit_and,zdb,hi,b];simp
section
variable {β:Type}{P:Program}{C:aA}{n:Nat}
def asr {t:gG}{o:Oper}:opA P C t o=opE P C (dS t) o:=by
 obtain⟨dst,op,b,d,after,guard⟩:=o;cases op <;> first|rfl|(rename_i x;cases x <;> rfl)|(rename_i x y;cases y <;> rfl)
def aar {ev d:Operand->AV}{o:Oper}(h:∀x∈o.op.operands.toList,ev x=d x):opE P C ev o=opE P C d o:=by
 obtain⟨dst,op,u,v,after,guard⟩:=o;have mp:∀(ps:Array (Nat × Operand)),(∀x∈(ps.toList.map (·.2)),ev x=d x)->ps.toList.map (λp=>(p.1,ev p.2))=ps.toList.map λp=>(p.1,d p.2):=λps w=>
  zbo λp hm=>by rw[w p.2 (zaM.2 ⟨p,hm,rfl⟩)]
 have k:∀(x:Option Operand),(∀y∈x.toArray.toList,ev y=d y)->x.map ev=x.map d:=λx e=>by
  cases x with
  |none=>rfl
  |some y=>simp only[zaj,e y O]
 simp only at h;cases op with
 |build n ps=>simp only[opE,mp ps λx e=>h x (by simpa [Op.operands]using e)]
 |buildSlice n m ps=>simp only[opE,mp ps λx e=>h x (by simpa [Op.operands]using e)]
 |makeFunc f a c=>
  simp only[opE];rw[zbo (f:=ev) (g:=d) (l:=a.toList) λx e=>h x (by simp[Op.operands];exact .inl (by simpa using e)),zbo (f:=ev) (g:=d) (l:=c.toList) λx e=>h x (by simp[Op.operands];exact .inr (by simpa using e))]
 |makeMap n r=>cases r <;> rfl
 |slice n x lo hi z=>
  simp only[opE];rw[h x (by simp[Op.operands]),k lo λy j=>h y (by simp[Op.operands];exact .inr (.inl (by simpa using j))),k hi λy j=>h y (by simp[Op.operands];exact .inr (.inr (.inl (by simpa using j)))),k z λy j=>h y (by simp[Op.operands];exact .inr (.inr (.inr (by simpa using j))))]
 |call c=>
  obtain⟨q,i,A⟩:=c;have ha:i.toList.map ev=i.toList.map d:=zbo λx e=>h x (by simp[Op.operands,Call.operands];exact .inr (by simpa using e));cases q with
  |value f=>
   simp only[opE]
   funext H
   simp only[aj1];rw[ha,h f (by simp[Op.operands,Call.operands])]
  |builtin b=>
   simp only[opE]
   funext H
   simp only[aj1];rw[ha]
  |invoke r m=>rfl
 |_=>first|rfl|(simp only[opE,h _ (show _ from(by simp[Op.operands]))];done)|(simp[Op.operands]at h;simp only[opE,h])
def Ag.op {L:Nat}{t:gG}{e:Env}{ops:List Oper}{o:Oper}(h:Ag n (Yw ops o L) t e):opA P C t o=opE P C (vw n e) o:=by
 rw[asr];exact aar λx b=>h.left.left.eval b
def Le(x y:Option β):Prop:=∀r,x=some r->y=some r
def Le.refl(x:Option β):Le x x:=λ_ h=>h
def Le.bnd {α:Type}{x:Option (α × ah)}{k k':α->ah->Option β}(h:∀v H,Le (k v H) (k' v H)):Le (bnd x k) (bnd x k'):=by
 rcases x with _|⟨v,H⟩
 ·exact Le.refl _
 ·exact h v H
def Wh {L:Nat}{t:gG}{e:Env}{ops:List Oper}{lo:Bool}{o:Oper}(h:Ag n (Yw ops o L) t e){H:ah}{k k':AV->ah->Option β}(hk:∀v H,Le (k' v H) (k v H)):Le (Yv P C n ops lo o e H k') (bnd (mV P C ops lo o t H) k):=by
 have g:opA P C t o=opE P C (vw n e) o:=h.op;unfold Yv mV;cases u:o.guard with
 |none=>
  simp only[uM,u];cases lo with
  |false=>simp only[zal,if_false,agN,g];exact Le.bnd hk
  |true=>
   simp only[if_true,opG,g];exact Le.bnd hk
 |some gd=>
  obtain⟨j,m⟩:=gd;rw[Qm u];have i:=h.left.right;simp only[agP,u]at i;have w:∀v,Qr n ops e j=some v->VZ ops t j=some v:=by
   intro v hv;unfold Qr at hv;unfold VZ;cases A:ops[j]? with
   |none=>rw[A]at hv;cases hv
   |some p=>
    rw[A]at hv i;simp only at hv i;simp only[za4];cases hd:p.dst with
    |none=>rw[hd]at hv;cases hv
    |some d=>
     rw[hd]at hv i;simp only at hv i;simp only[za4];rcases zaU d n with q|q
     ·rw[V8 q]at hv;have:=i.len;rw[Nr V,i.get d q vC];exact hv
     ·rw[Qv q]at hv;cases hv
  simp only;cases y:Qr n ops e j with
  |none=>intro r z;cases lo <;> simp[gdA,Kv]at z
  |some v=>
   rw[w v y];simp only[gdA];cases Kv (some v) m with
   |none=>intro r z;cases lo <;> cases z
   |some b=>
    cases b
    ·cases lo <;> exact hk _ _
    ·cases lo with
     |false=>simp only[gd,if_true,zal,if_false,g];exact Le.bnd hk
     |true=>simp only[gd,if_true,opG,g];exact Le.bnd hk
def aas {ops:List Oper}{L:Nat}{k:gG->ah->Option β}{k':Env->ah->Option β}(hk:∀t e H,Ag n L t e->Le (k' e H) (k t H)):∀(l:List Oper) (t:gG) (e:Env) (H:ah),Ag n (Ub ops l L) t e->Le (amy P C n ops l e H k') (bnd (PW P C ops l t H) k)
 |[],t,e,H,h=>hk t e H h
 |o::l,t,e,H,h=>by
  rw[Ad];have:=Wh (P:=P) (C:=C) (lo:=false) h (H:=H) (k:=λv H=>bnd (PW P C ops l (wF t o.dst v) H) k) (k':=λv H=>amy P C n ops l (agM e o.dst v) H k') λv H=>aas hk l _ _ H (h.put v);refine λr g=>?_;have b:=this r g;cases d:mV P C ops false o t H with
  |none=>rw[d]at b;cases b
  |some q=>rw[d]at b;exact b
def Hq {ops:List Oper}{L:Nat}{k:gG->ah->Option β}{k':Env->ah->Option β}(hk:∀t e H,Ag n L t e->Le (k' e H) (k t H)):∀(l:List Oper) (d:List (Option Bool)) (t:gG) (e:Env) (H:ah),Ag n (aeI ops l d L) t e->Le (KD P C n l d e H k') (bnd (Ae P C l (d.map λf=>f.isNone) t H) k)
 |[],[],t,e,H,h=>hk t e H h
 |[],f::d,t,e,H,h=>λr g=>by cases g
 |o::l,[],t,e,H,h=>λr g=>by cases g
 |o::l,none::d,t,e,H,h=>by
  simp only[KD,zaD,zdf,Ae];rw[Ag.op (P:=P) (C:=C) h];cases opE P C (vw n e) o H with
  |none=>exact Le.refl _
  |some q=>exact Hq hk l d _ _ _ (Ag.put h _)
 |o::l,some b::d,t,e,H,h=>Hq hk l d _ _ H h
def aj6 {t:gG}{ev:Operand->AV}{o:Oper}(h:∀x∈o.op.operands.toList,dS t x=ev x):lK t o.op=KC ev o.op:=by
 obtain⟨dst,op,d,e,after,guard⟩:=o;simp only at h;cases op with
 |call c=>
  obtain⟨g,b,i⟩:=c;simp only[lK,KC];have ha:∀x∈b.toList,dS t x=ev x:=λx j=>h x (by simp[Op.operands,Call.operands];exact .inr (by simpa using j));generalize b.toList=l at ha
  match l with
  |[]=>rfl
  |[x]=>simp only[ha x O]
  |x::y::l=>rfl
 |_=>first|rfl|(simp[Op.operands]at h;simp only[lK,KC,h])
def Hr {ops:List Oper}{s:Nat}{ps:List (Nat × Nat)}{t0:gG}{H0:ah}{L:Nat}{k':Env->ah->Option β}{r:β}:∀(l:List Oper) (i:Nat) (t:gG) (e:Env) (H:ah) (d:Log),i+l.length=ops.length->ops.drop i=l->Gu P C ops i t0 H0=some (t,H)->
  Ag n (Uc ops l ((List.range' i l.length).map λi=>if cst ops i=true then none else some (loose ops i && mM (qp ops i))) L) t e->
  (∀j w A D,ED d j=some (w,A,D)->∃X tb,Gu P C ops j t0 H0=some (X,A)/\w=lK X (qp ops j)/\Gu P C ops (j+1) t0 H0=some (tb,D))->
  JH P C n ops s H0.next ps l ((List.range' i l.length).map λi=>if cst ops i=true then none else some (loose ops i && mM (qp ops i))) i e H d k'=some r->
  ∃t' e' H',fZ P C ops (mX ops) t0 H0=some (t',H')/\(∀p∈ps,agree P C ops s t0 H0 p)/\Ag n L t' e'/\k' e' H'=some r
 |[],i,t,e,H,d,K,hd,M,b,g,h=>by
  have hi:i=ops.length:=by simpa using K
  subst hi;refine⟨t,e,H,M,?_⟩;simp only[zan,List.range'_zero,zbT,JH]at h;have aa:Ag n L t e:=b
  clear M hd K b
  induction ps with
  |nil=>exact⟨λp u=>(by simp at u),aa,h⟩
  |cons p ps ih=>
   obtain⟨j,e'⟩:=p;simp only[ckL]at h;cases z:cst ops j with
   |true=>
    rw[z]at h;simp only at h;cases E:ED d e' with
    |none=>rw[E]at h;cases h
    |some y=>
     obtain⟨w',A,D⟩:=y;rw[E]at h;simp only[ckR]at h;split at h
     ·rename_i F;obtain⟨i1,i2⟩:=ih h;refine⟨λp u=>?_,i2⟩;rcases zao.1 u with rfl|u
      ·unfold agree;rw[if_pos z];intro te He ab ad Q R r ae af;obtain⟨ag,ai,s4,s5,s6⟩:=g e' w' A D E;rw[s4]at Q;rw[s6]at R;cases Q;cases R;exact F r ae af
      ·exact i1 p u
     ·cases h
   |false=>
    rw[z]at h;simp only at h;cases m:ED d j with
    |none=>rw[m]at h;cases h
    |some x=>
    obtain⟨w,Hx,Hy⟩:=x;cases E:ED d e' with
    |none=>rw[m,E]at h;cases h
    |some y=>
     obtain⟨w',A,D⟩:=y;rw[m,E]at h;simp only[ck]at h;split at h
     ·rename_i F;obtain⟨i1,i2⟩:=ih h;refine⟨λp u=>?_,i2⟩;rcases zao.1 u with rfl|u
      ·unfold agree;rw[if_neg (by rw[z];decide)];intro tj Hj te He ab ad q1 Q R r hr;obtain⟨X,tb,s1,s2,s3⟩:=g j w Hx Hy m;obtain⟨ag,ai,s4,s5,s6⟩:=g e' w' A D E;rw[s1]at q1;rw[s4]at Q;rw[s6]at R;cases q1;cases Q;cases R;exact F r (by rw[s2];exact hr)
      ·exact i1 p u
     ·cases h
 |o::l,i,t,e,H,d,K,hd,M,b,g,h=>by
  have hi:i<ops.length:=by simp at K;omega
  have ho:ops[i]?=some o:=by
   have:=zaH (xs:=ops) (i:=i) (j:=0);rw[hd]at this
   simpa using this.symm
  have T:ops.drop (i+1)=l:=by
   rw[<-zbN,hd];rfl
  rw[zak,zc7,zaD]at h b;cases hc:cst ops i with
  |true=>
   simp only[hc,if_true,JH]at h;simp only[hc,if_true,Uc]at b;refine Hr l (i+1) t e H d (by simp at K;omega) T ?_ b g h;rw[wO,M];simp[hc]
  |false=>
   simp only[hc,zal,if_false,JH]at h;simp only[hc,zal,if_false,Uc]at b;rw[uX ho]at h;have hw:lK t o.op=KC (vw n e) o.op:=aj6 λx hx=>Ag.eval (Ag.left (Ag.left b)) hx;have key:=Wh (P:=P) (C:=C) (lo:=loose ops i && mM o.op) b (H:=H) (β:=β)
    (k:=λv H'=>JH P C n ops s H0.next ps l ((List.range' (i+1) l.length).map λi=>if cst ops i=true then none else some (loose ops i && mM (qp ops i))) (i+1) (agM e o.dst v) H' ((i,KC (vw n e) o.op,H,H')::d) k')
    (λv H=>Le.refl _) r h
   cases G:mV P C ops (loose ops i && mM o.op) o t H with
   |none=>rw[G]at key;cases key
   |some q=>
    obtain⟨v,H'⟩:=q;rw[G]at key;simp only[bnd]at key;have W:Gu P C ops (i+1) t0 H0=some (wF t o.dst v,H'):=by
     rw[wO,M];simp[hc,ho,G,fZ]
    refine Hr l (i+1) _ _ H' _ (by simp at K;omega) T W (Ag.put b v) (λj w A D m=>?_) key;simp only[ED]at m;cases hb:Nat.beq i j with
    |true=>
     have:i=j:=zbJ hb;subst this;rw[hb]at m;simp only[cond_true,zaa,zad]at m;obtain⟨rfl,rfl,rfl⟩:=m;exact⟨t,_,M,by rw[uX ho,hw],W⟩
    |false=>
     rw[hb]at m;exact g j w A D m
def Wi {i:Nat}:∀{M:List Nat},(pU M).testBit i=true->i∈M
 |[],h=>by simp[pU]at h
 |m::M,h=>by
  simp only[pU,zcH,zdb,zbu,decide_eq_true_eq]at h;rcases h with rfl|h
  ·simp
  ·exact zbb _ (Wi h)
def Wj {e:Env}:∀(M pre:List Nat) (i:Nat),i∈M->Pz (emb (yI (pre++M) e) M pre.length) i=Pz e i
 |m::M,pre,i,h=>by
  simp only[emb,Pz];cases hb:Nat.beq m i with
  |true=>
   have:m=i:=zbJ hb;subst this;simp only[cond_true];have:∀pre:List Nat,(yI (pre++m::M) e).getD pre.length aY=Pz e m:=by
    intro pre
    induction pre with
    |nil=>rfl
    |cons x pre d=>exact d
   exact this pre
  |false=>
   simp only[cond_false];have b:i≠m:=λe=>by subst e;rw[show Nat.beq i i=true from Nat.beq_refl i]at hb;cases hb
   have:=Wj (e:=e) M (pre++[m]) i ((zao.1 h).resolve_left b)
   simpa using this
def Ag.emb {M:List Nat}{t:gG}{e:Env}(h:Ag n (pU M) t e):Ag n (pU M) t (Go.Proofs.YtgplhpgkompkmaaGreat.emb (yI M e) M 0):=by
 refine⟨h.len,λi b hi=>?_⟩;have:=Wj (e:=e) M [] i (Wi hi);simp only[zaN,zan]at this;rw[this];exact h.get i b hi
def Qw(kn:gG->ah->Option β)(kx:Nat->gG->ah->Option β)(kr:gG->ah->Option β):Res->Option β
 |some (.normal,t,H)=>kn t H
 |some (.exit i,t,H)=>kx i t H
 |some (.ret,t,H)=>kr t H
 |none=>none
variable {kn:gG->ah->Option β}{kx:Nat->gG->ah->Option β}{kr:gG->ah->Option β}
def aat {x:Option (gG × ah)}:Qw kn kx kr (okN x)=bnd x kn:=by rcases x with _|⟨t,H⟩ <;> rfl
def Wn {r:Res}{g:Run}:Qw kn kx kr (sH r g)=Qw (λt H=>Qw kn kx kr (g t H)) kx kr r:=by
 rcases r with _|⟨e,t,H⟩
 ·rfl
 ·cases e <;> rfl
def aau {id:Nat}{r:Res}:Qw kn kx kr (DR id r)=Qw kn (λi t H=>match Nat.beq i id with
 |true=>kn t H
 |false=>kx i t H) kr r:=by
 rcases r with _|⟨e,t,H⟩
 ·rfl
 ·cases e with
  |exit i=>
   simp only[DR,Qw];by_cases hi:i=id
   ·subst hi;simp only[if_true,Nat.beq_refl]
   ·have:Nat.beq i id=false:=zdL.2 λh=>hi (zbJ h);simp only[hi,if_false,this]
  |normal=>rfl
  |ret=>rfl
def aeJ {c:AV}{x y:Res}:Qw kn kx kr (aeB c x y)=aQ c (Qw kn kx kr x) (Qw kn kx kr y):=by
 unfold aeB aQ;split <;> first|rfl|skip
 all_goals (try(split <;> first|rfl|contradiction))
def Ud:∀{a b:List (Option Bool)},amB a b=true->a=b
 |[],[],_=>rfl
 |none::a,none::b,h=>by rw[Ud (a:=a) (b:=b) h]
 |some x::a,some y::b,h=>by
  simp only[amB,zah,beq_iff_eq]at h;rw[h.1,Ud h.2]
 |[],_::_,h=>by cases h
 |none::_,[],h=>by cases h
 |some _::_,[],h=>by cases h
 |none::_,some _::_,h=>by cases h
 |some _::_,none::_,h=>by cases h
def aav:∀{a b:List (Nat × Nat)},arP a b=true->a=b
 |[],[],_=>rfl
 |(a,b)::l,(c,d)::m,h=>by
  simp only[arP,zah]at h;rw[zbJ h.1,zbJ h.2.1,aav h.2.2]
 |[],_::_,h=>by cases h
 |_::_,[],h=>by cases h
open Classical in
def Ht(A:Ann):∀(c:Code) (z:Nat) (y:Nat->Nat) (v:Nat),Qu A n c z y v=true->∀(kn:gG->ah->Option β) (o:Env->ah->Option β) (kx:Nat->gG->ah->Option β) (g:Nat->Env->ah->Option β) (kr:gG->ah->Option β) (e:Env->ah->Option β),
  (∀t t' H,Ag n z t t'->Le (o t' H) (kn t H))->(∀i t t' H,Ag n (y i) t t'->Le (g i t' H) (kx i t H))->(∀t t' H,Ag n v t t'->Le (e t' H) (kr t H))->
  ∀t t' H,Ag n (zA A c z y v) t t'->Le (kY P C A n c t' H o g e) (Qw kn kx kr (fF P C c t H)):=by
 intro c
 induction c with
 |skip=>intro z y v hc kn o kx g kr e E F u t t' H h;exact E t t' H h
 |region id ops d=>
  intro z y v hc kn o kx g kr e E F u t t' H h;cases d with
  |false=>
   rw[TV,aat];exact aas E _ t t' H h
  |true=>
   simp only[Qu,cond_true,zah]at hc;obtain⟨h1,h2,W⟩:=hc;have h2:=aav h2;have W:=Ud W;have aa:(kW [] A.draw id).map (λf=>f.isNone)=Hl ops.toList:=by
    rw[<-W,aao,Hl,zcZ]
    apply zbo
    intro i _;simp only[Function.comp];cases cst ops.toList i <;> rfl
   rw[aah,aat];have e1:iW P C ops.toList (oL ops.toList) t H=Ae P C ops.toList (Hl ops.toList) t H:=by
    have:=Qp (P:=P) (C:=C) (ops:=ops.toList) ops.toList [] t H rfl
    simpa [oL,Hl,zcF]using this
   have ab:kW [] A.draw id=(List.range' 0 ops.toList.length).map λi=>if cst ops.toList i=true then none else some (loose ops.toList i && mM (qp ops.toList i)):=by
    rw[<-W,aao,zcF]
   refine λr ad=>?_;have D:=Hq (P:=P) (C:=C) (β:=β) (ops:=ops.toList) (L:=Uc ops.toList ops.toList (kW [] A.draw id) z)
    (k:=λt0 H0=>if(∀p∈kW [] A.pairs id,agree P C ops.toList H.next t0 H0 p)then bnd (fZ P C ops.toList (mX ops.toList) t0 H0) kn else none)
    (k':=λt H0=>JH P C n ops.toList H.next H0.next (kW [] A.pairs id) ops.toList (kW [] A.draw id) 0 t H0 [] o) (λt0 e0 H0 G r u=>by
     rw[ab]at u G;obtain⟨t1,e1,H1,d1,X,d3,d4⟩:=Hr (t0:=t0) (H0:=H0) ops.toList 0 t0 e0 H0 [] O O  (by simp[Gu,fZ]) G (λj w Ha Hb hj=>by cases hj) u;rw[if_pos X,d1];exact E t1 e1 H1 d3 r d4) ops.toList (kW [] A.draw id) t t' H h r ad
   rw[aa]at D;cases K:Ae P C ops.toList (Hl ops.toList) t H with
   |none=>rw[K]at D;cases D
   |some q=>
    obtain⟨t0,H0⟩:=q;rw[K]at D;simp only[bnd]at D;split at D
    ·rename_i X;have:y7 P C ops.toList t H=fZ P C ops.toList (mX ops.toList) t0 H0:=by
      unfold y7;rw[if_pos h1,e1,K];simp only;rw[<-h2]at X;split
      ·rfl
      ·rw[if_pos X]
     rw[this];exact D
    ·cases D
 |seq a b Q R=>
  intro z y v hc kn o kx g kr e E F u t t' H h;simp only[Qu,zah]at hc;rw[aeC,Wn];exact Q _ y v hc.1 _ _ kx g kr e (λt t' H G=>R z y v hc.2 kn o kx g kr e E F u t t' H G) F u t t' H h
 |cond c a b Q R=>
  intro z y v hc kn o kx g kr e E F u t t' H h;simp only[Qu,zah]at hc;have ha:=Q z y v hc.1 kn o kx g kr e E F u t t' H h.right.left;have hb:=R z y v hc.2 kn o kx g kr e E F u t t' H h.right.right;rw[aag,aeJ,h.left.eval (x:=c) (zaV.2 rfl)];show Le (aQ (vw n t' c) _ _) _;unfold aQ;split
  ·exact ha
  ·exact hb
  ·exact Le.refl _
 |block id a ih=>
  intro z y v hc kn o kx g kr e E F u t t' H h;rw[Yu,aau];refine ih z _ v hc kn o _ _ kr e E (λi t t' H G=>?_) u t t' H h;cases hb:Nat.beq i id with
  |true=>simp only[hb,cond_true]at G ⊢;exact E t t' H G
  |false=>simp only[hb,cond_false]at G ⊢;exact F i t t' H G
 |loop a ih=>
  intro z y v hc kn o kx g kr e E F u t t' H h;simp only[Qu,zah]at hc;simp only[zA]at h;simp only[kY];generalize kW [] A.live (jW a)=M at hc h ⊢;obtain⟨hs,hc⟩:=hc;have hs:pU M ||| zA A a (pU M) y v=pU M:=zbJ hs
  have T:∀i,(zA A a (pU M) y v).testBit i=true->(pU M).testBit i=true:=λi hi=>by rw[<-hs,zcH,hi];simp
  let B:List AV->ah->(List AV->ah->Option β)->Option β:=λs H k=>kY P C A n a (emb s M 0) H (λt H=>k (yI M t) H) g e
  have it:∀m t t' H,Ag n (pU M) t t'->Le (Ho B m (yI M t') H) (Qw kn kx kr (Ce (fF P C a) m t H)):=by
   intro m
   induction m with
   |zero=>intro t t' H _ r u;cases u
   |succ m ae=>
    intro t t' H G;show Le (kY P C A n a (emb (yI M t') M 0) H (λt H=>Ho B m (yI M t) H) g e) (Qw kn kx kr (sH (fF P C a t H) (Ce (fF P C a) m)));rw[Wn];exact ih (pU M) y v hc _ _ kx g kr e (λt t' H hh=>ae t t' H hh) F u _ _ H (G.emb.sub T)
  rw[show fF P C (.loop a)=Yn (fF P C a)from rfl];intro r hf;obtain⟨m,hm⟩:=lN hf;have hm:=it m t t' H h r hm;cases u:Ce (fF P C a) m t H with
  |none=>rw[u]at hm;cases hm
  |some q=>rw[show Yn (fF P C a) t H=some q from wQ (λn r=>J8 n t H r) u,<-u];exact hm
 |exit i=>intro z y v hc kn o kx g kr e E F u t t' H h;exact F i t t' H h
 |ret=>intro z y v hc kn o kx g kr e E F u t t' H h;exact u t t' H h
 |_=>intro z y v hc kn o kx g kr e E F u t t' H h r u;cases u
end
def Tc:List ResultVar->Nat
 |[]=>0
 |.tmp d::b=>2 ^ d ||| Tc b
 |.cell a _::b=>2 ^ a ||| Tc b
def Nw {P:Program}{n:Nat}{t:gG}{e:Env}{H:ah}:∀(b:List ResultVar) (k:List AV->Option (AV × ah)),Ag n (Tc b) t e->Ua P n e H b k=(b.mapM (VQ P t H)).bind k
 |[],k,_=>by simp[Ua]
 |.tmp d::b,k,h=>by
  rw[zbC,Ua,Nw b _ h.right,<-h.left.tmp vC];simp only[VQ,zbY,za4,zcv];cases b.mapM (VQ P t H) <;> rfl
 |.cell a g::b,k,h=>by
  rw[zbC,Ua,<-h.left.tmp vC];simp only[VQ];cases Tj P g (t.getD a aY) H with
  |none=>rfl
  |some r=>
   simp only[bnd,zaj,zbY,za4,zcv];rw[Nw b _ h.right];cases b.mapM (VQ P t H) <;> rfl
def aaw {P:Program}{n:Nat}{t:gG}{e:Env}{H:ah}(b:List ResultVar)(h:Ag n (Tc b) t e):(jC P b t H).map (λv=>(v,H))=PD P n b e H:=by
 unfold PD jC;rw[Nw b _ h];cases b.mapM (VQ P t H)with
 |none=>rfl
 |some l=>
  simp only[za4]
  match l with
  |[]=>rfl
  |[x]=>rfl
  |x::y::l=>rfl
def asu(A:Ann)(fn:Func)(c:Code):Bool:=Qu A fn.ntmps c (Tc fn.results.toList) (λ_=>0) (Tc fn.results.toList)
def Ny(n:Nat):∀(args:List AV) (i j:Nat),j<n->(args++List.replicate (n-args.length) aY).getD j aY=Pz (Qq args i) (i+j)
 |[],i,j,b=>by
  simp[Qq,Pz,List.getD,b]
 |a::args,i,0,_=>by simp[Qq,Pz]
 |a::args,i,j+1,b=>by
  have hb:Nat.beq i (i+(j+1))=false:=zdL.2 λh=>by have:=zbJ h;omega
  simp only[Qq,Pz,hb,cond_false];have:=Ny (n-1) args (i+1) j V;rw[show i+(j+1)=i+1+j by omega,<-this];simp only[zak,za3,List.getD_cons_succ];rw[show n-(args.length+1)=n-1-args.length by omega]
def amC {P:Program}{C:aA}{A:Ann}{f:FuncId}{fn:Func}{c:Code}{args:List AV}{H:ah}(j:P.funcs[f]?=some fn)(hb:fn.body=some c)(d:Nat.ble args.length fn.ntmps=true)(hc:asu A fn c=true){r:AV × ah}
  (h:kY P C A fn.ntmps c (Qq args 0) H (PD P fn.ntmps fn.results.toList) (λ_ _ _=>none) (PD P fn.ntmps fn.results.toList)=some r):zT P C f args H=some r:=by
 rw[ajY j hb];have key:∀r:Res,aso P fn.results.toList r=Qw (λt H=>(jC P fn.results.toList t H).map λv=>(v,H)) (λ_ _ _=>none) (λt H=>(jC P fn.results.toList t H).map λv=>(v,H)) r:=by
  intro r;rcases r with _|⟨e,t,H⟩
  ·rfl
  ·cases e <;> rfl
 rw[key];have d:args.length<=fn.ntmps:=Nat.le_of_ble_eq_true d;have b:(args++List.replicate (fn.ntmps-args.length) aY).length=fn.ntmps:=by simp;omega
 have g:∀t e H,Ag fn.ntmps (Tc fn.results.toList) t e->Le (PD P fn.ntmps fn.results.toList e H) ((jC P fn.results.toList t H).map λv=>(v,H)):=λt e H h=>by
  rw[aaw _ h];exact Le.refl _
 exact Ht A c _ _ _ hc _ _ _ _ _ _ g (λ_ _ _ _ _=>Le.refl _) g _ _ H ⟨b,λi k _=>by have:=Ny fn.ntmps args 0 i k;rwa [za7]at this⟩ r h
def rF:Nat->List (Option Bool)->List (Option Bool)
 |0,l=>l
 |n+1,l=>some false::rF n l
abbrev OA:=Option (AV × ah)
def rnK {P:Program}{C:aA}{A:Ann}{f:FuncId}{fn:Func}{c:Code}{args:List AV}{H:ah}{s:OA}(d:P.funcs[f]?=some fn)(b:(fn.body,Nat.ble args.length fn.ntmps,asu A fn c)=(some c,true,true))
  (e:kY P C A fn.ntmps c (Qq args 0) H (PD P fn.ntmps fn.results.toList) (λ_ _ _=>none) (PD P fn.ntmps fn.results.toList)=s) {r:AV × ah} (h:s=some r):zT P C f args H=some r:=by
 simp only[zad]at b;exact amC d b.1 b.2.1 b.2.2 (e.trans h)
def rnG {P:Program}{C:aA}(A:Ann){f:FuncId}{fn:Func}{args:List AV}{H:ah}{s:OA}(b:P.funcs[f]?=some fn)(d:(fn.body,Nat.ble args.length fn.ntmps,asu A fn (fn.body.getD .skip))=(some (fn.body.getD .skip),true,true))
  (e:kY P C A fn.ntmps (fn.body.getD .skip) (Qq args 0) H (PD P fn.ntmps fn.results.toList) (λ_ _ _=>none) (PD P fn.ntmps fn.results.toList)=s) {r:AV × ah} (h:s=some r):zT P C f args H=some r:=rnK b d e h
def jf(P:Program)(fn:Func)(n:Nat)(A:Ann)(b:Nat)(C:aA):List AV->ah->OA:=
 (wo P C A n (fn.body.getD .skip) (PD P n fn.results.toList) (λ_ _ _=>none) (PD P n fn.results.toList)).getD b λ_ _=>none
def lpE {P:Program}{fn:Func}{n:Nat}{A:Ann}{b:Nat}{C:aA}{l:List AV}{H:ah}:jf P fn n A b C l H=((pq P C A n (fn.body.getD .skip) (PD P n fn.results.toList) (λ_ _ _=>none) (PD P n fn.results.toList)).getD b λ_ _=>none) l H:=
 by unfold jf;rw[aeH]
def an0:Ann:=⟨[],[],[]⟩
@[congr] def amD {α β:Type}{x y:Option (α × ah)}{k:α->ah->Option β}(h:x=y):bnd x k=bnd y k:=by rw[h]
@[congr] def arQ {α β:Type}{x y:Option α}{k:α->Option β}(h:x=y):bo x k=bo y k:=by rw[h]
@[congr] def aj7 {β:Type}{c d:AV}{x y:Option β}(h:c=d):aQ c x y=aQ d x y:=by rw[h]
@[congr] def amE {β:Type}{g g':Option AV}{b:Bool}{x:Option (AV × ah)}{H:ah}{k:AV->ah->Option β}(h:g=g'):gdA g b x H k=gdA g' b x H k:=by rw[h]
def aax {α β:Type}{v:α}{k:α->Option β}:bo (some v) k=k v:=rfl
def KJ {β:Type}{x y:Option β}:aQ (.s (.bool true)) x y=x:=rfl
def Hu {β:Type}{x y:Option β}:aQ (.s (.bool false)) x y=y:=rfl
section
def fl(x:AV)(off:Nat):Option AV:=
 match x with
 |.agg cells=>cells[off]?
 |.s (.agg cs)=>(cs.toList.map AV.s)[off]?
 |_=>none
def slS(m:Nat)(x:AV)(lo hi d:Option AV):Option AV:=
 match x with
  |.s (.slice none 0 0)=>match jc lo 0,jc hi 0,jc d 0 with
   |some 0,some 0,some 0=>if hi=none->d=none then some (.s (.slice none 0 0))else none
   |_,_,_=>none
  |.sl r g off b len e ex=>match jc lo 0,jc hi len,jc d e with
   |some l,some h,some k=>
    if b=m/\l<=h/\h<=k/\k<=e/\(hi=none->d=none)then some (.sl r g (off+l*b) b (h-l) (k-l) (ex || !isNone d))else none
   |_,_,_=>none
  |.vs n b cells=>match jc lo 0,jc hi n,d with
   |some l,some h,none=>if b=m/\l<=h/\h<=n then some (.vs (h-l) b ((cells.drop (l*b)).take ((h-l)*b)))else none
   |_,_,_=>none
  |_=>none
def jg(d:Nat->Option (Nat × Nat))(z:List AV)(b:List (Nat × AV)):Option AV:=(fK d z b).map .agg
def ldO(x:AV)(b:Option gB):Option AV:=
 match x with
 |.ref _ g off=>match b with
  |some (.blk g' _ cells)=>if g'=g then cells[off]? else none
  |_=>none
 |.ip cells=>cells[0]?
 |_=>none
def ld(x:AV):AM AV:=kV (ldO x) x
def arR(n:Nat)(x:AV)(b:Option gB):Option AV:=
 match x with
 |.ref _ g off=>match b with
  |some (.blk g' _ cells)=>if g'=g then(if off+n<=cells.length then some (.agg ((cells.drop off).take n))else none)else none
  |_=>none
 |.ip cells=>if 0+n<=cells.length then some (.agg ((cells.drop 0).take n))else none
 |_=>none
def lda(n:Nat)(x:AV):AM AV:=kV (arR n x) x
def st(n:Nat)(x v:AV):AM AV:=λH=>
 match x with
 |.ref r g off=>match H.get r with
  |.blk g' b cells=>
   if g'=g/\H.base<=r/\some n=some v.cells.length/\v.cells.all AV.aS=true/\off+v.cells.length<=cells.length then
    some (aY,H.put r (.blk g b (aN cells off v.cells)))
   else none
  |.map ..=>none
 |_=>none
def alc(t:TypeId)(z:List AV):AM AV:=λH=>some (.ref H.next 0 0,H.new (.blk 0 t z))
def bsl(e:TypeId)(m:Nat)(z:List AV)(len:Nat)(b:List (Nat × AV)):AM AV:=λH=>
 match fK (λi=>some (i*m,m)) (dK z len) b with
 |some cells=>if cells.all AV.aS=true then some (.sl H.next 0 0 m len len true,H.new (.blk 0 e cells))else none
 |none=>none
def mks(e:TypeId)(m by_:Nat)(z:List AV)(len cap:AV):AM AV:=λH=>
 match len,cap with
 |.s (.int _ l),.s (.int _ c)=>
   if z.length=m/\z.all AV.aS=true/\0<=l/\l<=c/\c<=140737488355328/\by_*c<=140737488355328 then
    some (.sl H.next 0 0 m l.toNat c.toNat true,H.new (.blk 0 e (dK z c.toNat)))
   else none
 |_,_=>none
def mkm(k:IntKind):AM AV:=λH=>some (.mp H.next,H.new (.map k []))
def lkO(k:IntKind)(z:Value)(x i:AV)(ok:Bool)(d:Option gB):Option AV:=
 match x with
   |.mp _=>match i with
    |.s (.int k' n)=>match d with
     |some (.map b e)=>
      if k'=k/\b=k then
       match ql e n with
       |some v=>some (if ok then .tup [v,.s (.bool true)]else v)
       |none=>some (if ok then .tup [.s z,.s (.bool false)]else .s z)
      else none
     |_=>none
    |_=>none
   |_=>none
def lk(k:IntKind)(z:Value)(x i:AV)(ok:Bool):AM AV:=kV (lkO k z x i ok) x
def mup(k:IntKind)(x i v:AV):AM AV:=λH=>
 match x,i with
 |.mp r,.s (.int k' n)=>match H.get r with
  |.map b d=>if k'=k/\b=k/\H.base<=r then some (aY,H.put r (.map k (MF d n v)))else none
  |_=>none
 |_,_=>none
def del(k:IntKind)(x i:AV):AM AV:=λH=>
 match x,i with
 |.mp r,.s (.int k' n)=>match H.get r with
  |.map b d=>if k'=k/\b=k/\H.base<=r then some (.tup [],H.put r (.map k (zV d n)))else none
  |_=>none
 |_,_=>none
def ixO(m:Nat)(x i:AV)(d:Option gB):Option AV:=
 match x with
  |.sl r g off b len _ _=>match i with
   |.s (.int _ n)=>if some m=some b/\arL d=g/\0<=n/\n<len then some (.ref r g (off+n.toNat*b))else none
   |_=>none
  |.vs len b cells=>match i with
   |.s (.int _ n)=>if some m=some b/\0<=n/\n<len then some (.ip (cells.drop (n.toNat*b)))else none
   |_=>none
  |_=>none
def ix(m:Nat)(x i:AV):AM AV:=kV (ixO m x i) x
def asv(x:AV):Option AV:=
 match x with
  |.sl _ _ _ _ len _ _=>some (.s (.int .i64 len))
  |.vs n _ _=>some (.s (.int .i64 n))
  |.s (.slice _ n _)=>some (.s (.int .i64 n))
  |_=>none
def lnS(x:AV):AM AV:=kV (λ_=>asv x) x
def amF(x:AV)(b:Option gB):Option AV:=
 match x with
  |.mp _=>match b with
   |some (.map _ d)=>some (.s (.int .i64 d.length))
   |_=>none
  |.s (.map none)=>some (.s (.int .i64 0))
  |_=>none
def lnM(x:AV):AM AV:=kV (amF x) x
def app(e:TypeId)(m by_:Nat)(x y:AV):AM AV:=λH=>
 match kK y,cZ H y with
 |some n,some new=>dW e m by_ x n new H
 |_,_=>none
def cpy(m:Nat)(x y:AV):AM AV:=λH=>
 match kK x,kK y,cZ H y with
  |some d,some n,some new=>
   let k:=min n d
   if new.length=n*m/\new.all AV.aS=true then
    if k=0 then(match x with|.s (.string _)=>none|_=>some (.s (.int .i64 0),H))else
    match x with
    |.sl r g off b len _ _=>match H.get r with
     |.blk g' e cells=>
      if b=m/\g'=g/\H.base<=r/\off+len*m<=cells.length then
       some (.s (.int .i64 k),H.put r (.blk g e (aN cells off (new.take (k*m)))))
      else none
     |.map ..=>none
    |_=>none
   else none
  |_,_,_=>none
def clr(m:Nat)(z:List AV)(x:AV):AM AV:=λH=>
 match x with
  |.sl r g off b len _ _=>
   if len=0 then some (.tup [],H)else
   match H.get r with
   |.blk g' d cells=>
    if b=m/\g'=g/\H.base<=r/\z.length=m/\z.all AV.aS=true/\off+len*m<=cells.length then
     some (.tup [],H.put r (.blk g d (aN cells off (dK z len))))
    else none
   |.map ..=>none
  |.s (.slice none _ _)=>some (.tup [],H)
  |_=>none
end
def rD {P:Program}{t e:TypeId}{m n:Nat}{z:List AV}{ps:List (Nat × AV)}{H:ah}(b:JE P t=some e)(hm:szT P e=some m)(d:yH P e=some z)(g:z.length=m)(h:n*m<=16777216):dH P t n ps H=bsl e m z n ps H:=by
 simp only[dH,b,hm,d];rw[if_pos ⟨g,h⟩];rfl
def iO {P:Program}{t:TypeId}{b:Array Field}{d:Nat->Option (Nat × Nat)}{z:List AV}{ps:List (Nat × AV)}(e:yH P t=some z)(g:P.underlying t=some (.struct b))(ha:b.all (λf=>(szT P f.type).isSome)=true)(h:PK P b=d):fV P t ps=jg d z ps:=by
 simp only[fV,e,g,ha,if_true,h];rfl
def DU {P:Program}{s d:TypeId}{k1 k2 k:IntKind}{n:Int}{H:ah}(hb:Gs P s d=false)(e:P.underlying s=some (.int k1))(hd:P.underlying d=some (.int k2)):kL P s d (.s (.int k n)) H=some (.s (.int k2 (IntKind.wrap k2 n)),H):=by
 have h:je P (convert s d (.int k n))=some (.int k2 (IntKind.wrap k2 n)):=by
  have b:∀{α:Type} (t:TypeId) (d:TypeDesc) (f:TypeDesc->Sem α),P.underlying t=some d->je P (underlying t >>=f)=je P (f d):=by
   intro α t d f h;show je P ((match P.underlying t with
    |some d=>pure d
    |none=>stuck "no such type") >>=f)=_
   rw[h];rfl
  unfold convert;rw[b s _ _ e,b d _ _ hd];rfl
 simp only[kL,kV,bQ,zdc,zW,hb,zal,if_false,AV.val?,h,zaj]
abbrev zI:AV:=.s (.int .i64 0)
abbrev zB:AV:=.s (.bool false)
abbrev zN:AV:=.s (.slice none 0 0)
abbrev zP:AV:=.s (.pointer none)
abbrev zM:AV:=.s (.map none)
abbrev I(n:Int):AV:=.s (.int .i64 n)
abbrev B(b:Bool):AV:=.s (.bool b)
def fld {β:Type}(a:AV)(i:Nat)(H:ah)(k:AV->ah->Option β):Option β:=bo (au a i) λp=>bnd (ld p H) k
@[congr] def amG {β:Type}{a a':AV}{i:Nat}{H:ah}{k:AV->ah->Option β}(h:a=a'):fld a i H k=fld a' i H k:=by rw[h]
def agQ {β:Type}{a:AV}{i:Nat}{H:ah}{k:AV->ah->Option β}:fld a i H k=bo (au a i) λp=>bnd (ld p H) k:=rfl
def gl {β:Type}(g:AV)(b:Bool)(e:Option AV)(H:ah)(k:AV->ah->Option β):Option β:=gdA (some g) b (fQ e H) H k
@[congr] def arS {β:Type}{g g':AV}{b:Bool}{e:Option AV}{H:ah}{k:AV->ah->Option β}(h:g=g'):gl g b e H k=gl g' b e H k:=by rw[h]
def amH {β:Type}{g:AV}{b:Bool}{e:Option AV}{H:ah}{k:AV->ah->Option β}:gl g b e H k=gdA (some g) b (fQ e H) H k:=rfl
end
end Go.Proofs.YtgplhpgkompkmaaGreat
